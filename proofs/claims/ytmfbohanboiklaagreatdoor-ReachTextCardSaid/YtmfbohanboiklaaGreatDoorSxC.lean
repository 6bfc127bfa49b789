import Derived.Test.YtmfbohanboiklaaGreatDoorSxB
import Derived.MapKept
import Derived.Carry
import Derived.Laws.AppendOwn
import Derived.Laws.BytesString
import Derived.Laws.CopyRow
import Derived.Maps.RangeRun
import Derived.DefersIn
import Derived.ArgAppend
set_option linter.unusedSimpArgs false
set_option linter.unusedVariables false
namespace Go.Sx
open Go.RowKit (Below)
theorem gg{K:Nat->Prop}{v:V}{k:IntKind}{n:Int}(h:toInt v=some (k,n)):(∀J,cells J (.it k n)=cells J v)/\(ok K v->ok (fun _=>False) (.it k n))/\bP (V.it k n)=bP v:=by
 cases v<;>simp only[toInt,aa,ae,reduceCtorEq]at h<;>obtain⟨rfl,rfl⟩:=h
 ·exact⟨fun _=>rfl,fun h=>h,rfl⟩
 ·exact⟨fun _=>rfl,fun h=>h,rfl⟩
 ·rename_i b;refine⟨fun _=>rfl,fun _=>?_,rfl⟩
  have:=b.toNat_lt;simp only[ok,bU,Ku];omega
theorem gF{v:V}{b:Bool}(h:toBool v=some b):(∀J,cells J (.bo b)=cells J v)/\bP (V.bo b)=bP v:=by
 cases v<;>simp only[toBool,aa,reduceCtorEq]at h<;>subst h<;>exact⟨fun _=>rfl,rfl⟩
def nV{α:Type}(n:Nat)(x:α):List α:=List.replicate n x
def GP(n m:Int)(b:Nat):Prop:=m=n/\0<=n/\n<=9223372036854775807/\n*b<=281474976710656
def DT(n:Nat)(v:V):Option TL:=
 match v with
 | .ob o=>some (.ob (nV n o))
 | .key k=>some (.key (nV n k))
 | .st s=>some (.st (nV n s))
 |_=>match toInt v with
  |some (k,i)=>some (.it k (nV n i))
  |none=>match toBool v with
   |some b=>some (.bo (nV n b))
   |none=>none
theorem la{α:Type}{n i:Nat}(x d:α)(h:i<n):aX (nV n x) i d=x:=by
 simp[aX,nV,aq,h]
theorem k7{α:Type}(n:Nat)(x:α):aN (nV n x)=n:=by simp[aN,nV]
theorem yy{K:Nat->Prop}{n:Nat}{v:V}{l:TL}(h:DT n v=some l):
  l.len=n/\∀i,i<n->(∀J,cells J (l.get i)=cells J v)/\(ok K v->ok (fun _=>False) (l.get i))/\bp (l.get i)=false/\bP (l.get i)=bP v:=by
 unfold DT at h;split at h
 ·rename_i x;simp only[aa]at h;subst h;exact⟨k7 _ _,fun i hi=>by rw[show(TL.ob (nV n x)).get i=V.ob x from congrArg V.ob (la x free hi)];exact⟨fun _=>rfl,fun h=>h,rfl,rfl⟩⟩
 ·rename_i x;simp only[aa]at h;subst h;exact⟨k7 _ _,fun i hi=>by rw[show(TL.key (nV n x)).get i=V.key x from congrArg V.key (la x void hi)];exact⟨fun _=>rfl,fun h=>h,rfl,rfl⟩⟩
 ·rename_i x;simp only[aa]at h;subst h;exact⟨k7 _ _,fun i hi=>by rw[show(TL.st (nV n x)).get i=V.st x from congrArg V.st (la x ByteArray.empty hi)];exact⟨fun _=>rfl,fun h=>h,rfl,rfl⟩⟩
 ·split at h
  ·rename_i k i hki;simp only[aa]at h;subst h;obtain⟨c1,c2,c3⟩:=gg (K:=K) hki;exact⟨k7 _ _,fun j hj=>by rw[show(TL.it k (nV n i)).get j=V.it k i from congrArg (V.it k) (la i 0 hj)];exact⟨c1,c2,rfl,c3⟩⟩
  ·split at h
   ·rename_i b hb;simp only[aa]at h;subst h;obtain⟨c1,c2⟩:=gF hb;exact⟨k7 _ _,fun j hj=>by rw[show(TL.bo (nV n b)).get j=V.bo b from congrArg V.bo (la b false hj)];exact⟨c1,fun _=>trivial,rfl,c2⟩⟩
   ·simp at h
theorem uu(z:Array Value):∀n:Nat,(madeCells z (n*z.size)).toList=(List.range n).flatMap fun _=>z.toList
 |0=>by simp[madeCells]
 |n+1=>by
  rw[List.range_succ,List.flatMap_append,<-uu z n];simp only[List.flatMap_cons,List.flatMap_nil,List.append_nil];apply List.ext_getElem?
  intro j;rw[List.getElem?_append];simp only[Array.length_toList,size_madeCells];by_cases h1:j<n*z.size
  ·rw[au h1];have h2:j<(n+1)*z.size:=Nat.lt_of_lt_of_le h1 (Nat.mul_le_mul_right _ (Nat.le_succ n));simp[madeCells,h1,h2]
  ·rw[ar h1];have e:(n+1)*z.size=n*z.size+z.size:=Nat.succ_mul _ _;by_cases h2:j<(n+1)*z.size
   ·have hk:j-n*z.size<z.size:=by omega
    have hm:j%z.size=j-n*z.size:=by
     have:j=(j-n*z.size)+z.size*n:=by rw[Nat.mul_comm z.size n];omega
     conv=>lhs;rw[this]
     rw[Nat.add_mul_mod_self_left,Nat.mod_eq_of_lt hk]
    simp[madeCells,h2,hk,hm]
   ·simp[madeCells,h2];omega
def vL(C:Ctx)(nid t:Nat)(a b:V):Option (Option Prop×V×List aI):=
 match C.P.underlying t with
 |some (.slice e)=>match C.Z e,C.P.info? e with
  |some z,some inf=>match toInt a,toInt b with
   |some (_,n),some (_,m)=>match DT (gX n) z with
    |some l=>some (some (GP n m inf.bytes),.sa nid,[.arr (some e) (bP z) l])
    |none=>none
   |_,_=>none
  |_,_=>none
 |_=>none
def Env.setRow(J:Env)(i:Nat)(a:Addr)(n:Nat):Env:=
 {num:=J.num,cap:=fun j=>if j=i then n else J.cap j,adr:=fun j=>if j=i then a else J.adr j,sa:=fun j=>if j=i then some a else J.sa j,sn:=fun j=>if j=i then n else J.sn j,ob:=J.ob}
theorem uz{N:Nat->Prop}(J:Env){i:Nat}{a:Addr}{n:Nat}(h:¬N i):Env.agree N J (J.setRow i a n):=fun j hj=>by
 have e1:j≠i:=fun e=>h (e▸hj)
 simp[Env.setRow,e1]
theorem tw{J:Env}{v:V}{k:IntKind}{n:Int}(h:toInt v=some (k,n)):den J v= .int k n:=by
 cases v<;>simp only[toInt,aa,ae,reduceCtorEq]at h<;>obtain⟨rfl,rfl⟩:=h<;>rfl
theorem Bf{C:Ctx}{nid t:Nat}{a b x:V}{q:Option Prop}{new:List aI}(h:vL C nid t a b=some (q,x,new)):x= .sa nid/\∃o e l,new= [.arr o e l]:=by
 unfold vL at h;split at h
 ·grind
 ·simp at h
theorem xS{C:Ctx}{J:Env}{K:Nat->Prop}{w0 w:World}{F0:Nat->Prop}{nid t:Nat}{a b x:V}{q:Option Prop}{new:List aI}(hC:C.vo)(h:vL C nid t a b=some (q,x,new))(hq:bq q)(hn:¬K nid):
  ∃w' ρ',(Instr.makeSlice t (den J a) (den J b)).run C.P w= .ok (den ρ' x) w'/\fJ K J ρ' nid new w0 F0 w w':=by
 unfold vL at h;split at h
 ·rename_i e ht;split at h
  ·rename_i z inf hZ hi;split at h
   ·rename_i k n k' m ha hb;split at h
    ·rename_i l hl;simp only[aa,ae]at h;obtain⟨rfl,rfl,rfl⟩:=h;obtain⟨rfl,h0,h1,h2⟩:=(show GP n m inf.bytes from hq);obtain⟨l1,l2⟩:=yy (K:=fun _=>False) hl
     obtain⟨i',g1,g2,g3,g4,g5⟩:=hC e z hZ;have:inf=i':=by rw[hi]at g1;exact Option.some.inj g1
     subst this;obtain⟨N,rfl⟩:∃N:Nat,m=(N:Int):=⟨m.toNat,by omega⟩
     have hN:gX (N:Int)=N:=by simp[gX]
     rw[hN]at l1 l2
     have hb2:inf.bytes*N<=281474976710656:=by
      grind
     have hzs:(den Env.zero z).cells.size=bP z:=by rw[<-aO Env.zero z g3];simp[cells]
     obtain⟨w',r1,r2,r3⟩:=run_make_full (P:=C.P) (w:=w) 0 t e inf (den Env.zero z) (bP z) ht hi (g2 Env.zero) g5 k k' N hb2 (by simp only[maxLen];omega) (Nat.zero_le _)
     have hcells:(madeCells (den Env.zero z).cells (N*bP z)).toList=l.cells:=by
      rw[<-hzs,uu,TL.cells,l1];exact gV _ _ _ fun j hj=>((l2 j (List.mem_range.1 hj)).1 Env.zero).symm
     rw[hcells]at r2
     have hblt:w.heap.size<w'.heap.size:=by
      rcases r2.2 with⟨hh,_⟩|⟨g,cap,cur,hh,_,hg,_⟩
      ·simp at hh
      ·grind
     refine⟨w',J.setRow nid ⟨w.heap.size,0,none⟩ N,?_,?_⟩
     ·grind[tw,den,Env.setRow]
     ·refine⟨(Below.refl _ _).grown r3 (Nat.le_refl _) (fun k hk=>by simp at hk),uz J (fun hf=>hf ⟨Nat.le_refl _,by simp⟩),fun _ b=>b=w.heap.size,fun k hk=>?_,fun k l b hk hl hne=>?_⟩
      ·simp only[List.length_singleton,Nat.lt_one_iff]at hk;subst hk;refine⟨⟨fun j hj=>?_,by simp[Env.setRow,l1],by rw[l1];omega,fun a ha=>by simp[Env.setRow]at ha⊢;exact ha.symm,fun _=>by simp[Env.setRow],fun _=>by simp[Env.setRow],.inr ⟨e,fun e' he=>by simpa using he.symm,?_,fun a ha=>by simp[Env.setRow]at ha;rw[<-ha]⟩⟩,fun b hb=>by subst hb;exact⟨Nat.le_refl _,hblt⟩⟩
       ·simp_all
       ·simp_all[Env.sl,Env.setRow]
      ·simp_all
    ·simp at h
   ·simp at h
  ·simp at h
 ·simp at h
end Go.Sx
namespace Go.Sx
open Go.RowKit (Below)
def KC(b:Bool)(x y:Int):Int:=match b with
 |true=>x
 |false=>y
def Gp(n:Int):List Int->Bool
 | []=>false
 |k::ks=>match ks with
  | []=>vp n k
  |_=>Ji (vp n k) (Gp n ks)
theorem wE(n k:Int)(ks:List Int):Gp n (k::ks)=(decide (n=k)||Gp n ks):=by
 cases ks<;>simp[Gp,vp,Ji]
def sG(n:Int)(z:V):List Int->List V->Option V
 | [],[]=>some z
 |k::ks,v::vs=>match v with
  | .fn f l=>match sG n z ks vs with
    |some y=>some (.ch (vp n k) f l y)
    |none=>none
  |_=>none
 |_,_=>none
def yF(kd:IntKind)(n z:Int):List Int->List V->Option Int
 | [],[]=>some z
 |k::ks,v::vs=>match toInt v with
  |some (kd',a)=>if kd==kd' then match yF kd n z ks vs with
   |some y=>some (KC (vp n k) a y)
   |none=>none
   else none
  |none=>none
 |_,_=>none
def IV(n:Int)(z:V)(ks:List Int)(vs:List V):Option V:=
 match z with
 | .nl v=>match v with
   | .nilFunc=>sG n (.nl .nilFunc) ks vs
   |_=>none
 | .ci kd a=>match yF kd n a ks vs with
   |some y=>some (.it kd y)
   |none=>none
 |_=>none
def Ea(C:Ctx)(res:List aI)(t:Nat)(m x:V)(two:Bool):Option V:=
 match m with
 | .mp i=>match toInt x with
   |some (kd,n)=>match bD res i with
    | .mp kd' ks vs=>match C.P.underlying t with
      |some (.map kt et)=>match C.P.underlying kt with
       |some (.int kd'')=>if kd==kd'&&kd==kd'' then match C.Z et with
        |some z=>match IV n z ks vs with
         |some y=>if two then some (.tp [y,.bo (Gp n ks)])else some y
         |none=>none
        |none=>none
        else none
       |_=>none
      |_=>none
    |_=>none
   |none=>none
 |_=>none
def FW(P:Program)(res:List aI)(t:Nat)(m x v:V):Option (List aI):=
 match m with
 | .mp i=>match x with
   | .ci kd n=>match aH res i with
     | .mp kd' ks vs=>match P.underlying t with
       |some (.map kt et)=>match P.underlying kt with
        |some (.int kd'')=>if kd==kd'&&kd==kd''&&decide (bU kd n)&& !ks.contains n&& !bp v then some (bd res i (.mp kd (ks++ [n]) (vs++ [v])))else none
        |_=>none
       |_=>none
     |_=>none
   |_=>none
 |_=>none
section
variable {J:Env} {fps:Nat->Nat->Prop} {res:List aI} {K:Nat->Prop} {w0 w:World} {F0:Nat->Prop}
theorem kz{kd:IntKind}{n:Int}:∀(ks:List Int) (xs:List Value) (l:List MapEntry) (i:Nat),l.map (·.key)=ks.map (Value.int kd)->l.map (·.val)=xs->
  ∃r,Instr.findNow (.int kd) (.int kd n) l i=some r/\r.isSome=Gp n ks/\
   ((r=none/\n∉ks)\/∃j x,r=some (i+j,x)/\ks[j]? =some n/\xs[j]? =some x/\∀q<j,ks[q]? ≠some n)
 | [],xs,l,i,h,h'=>by
   cases l with
   |nil=>exact⟨none,rfl,rfl,.inl ⟨rfl,by simp⟩⟩
   |cons e l=>simp at h
 |k::ks,xs,l,i,h,h'=>by
  cases l with
  |nil=>simp at h
  |cons e l=>
   simp only[List.map_cons,List.cons.injEq]at h;obtain⟨hk,hl⟩:=h;subst h';by_cases e1:n=k
   ·subst e1;refine⟨some (i,e.val),by simp[Instr.findNow,hk,Instr.sameNow],by rw[wE];simp,.inr ⟨0,e.val,rfl,by simp,by simp,by simp⟩⟩
   ·obtain⟨r,r1,r2,r3⟩:=kz (n:=n) ks _ l (i+1) hl rfl;refine⟨r,by simp[Instr.findNow,hk,Instr.sameNow,beq_eq_false_iff_ne.2 e1,r1],by rw[wE,r2];simp[e1],?_⟩
    rcases r3 with⟨a,b⟩|⟨j,x,a,b,c,d⟩
    ·exact .inl ⟨a,by simp[e1,b]⟩
    ·refine .inr ⟨j+1,x,by rw[a];congr 2;omega,by simpa using b,by simpa using c,fun q hq=>?_⟩
     cases q with
     |zero=>simp;exact fun e=>e1 e.symm
     |succ q=>simpa using d q (by omega)
theorem wx{n:Int}{z:V}(hz:ok K z)(hz1:∀J:Env,(den J z).oneCell'=true):∀(ks:List Int) (vs:List V) (y:V),sG n z ks vs=some y->cm K vs->
  ok K y/\(∀J:Env,(den J y).oneCell'=true)/\∀J:Env,(n∉ks->den J y=den J z)/\∀(j:Nat) x,ks[j]? =some n->(aV J vs)[j]? =some x->(∀q<j,ks[q]? ≠some n)->den J y=x
 | [],[],y,h,hv=>by
   simp_all[sG]
 | [],_::_,y,h,hv=>by simp[sG]at h
 |_::_,[],y,h,hv=>by simp[sG]at h
 |k::ks,v::vs,y,h,hv=>by
  simp only[sG]at h;split at h
  ·rename_i f l;split at h<;>simp only[aa,reduceCtorEq]at h
   rename_i y' hy;subst h;obtain⟨a,b,c⟩:=wx hz hz1 ks vs y' hy hv.2;refine⟨⟨hv.1,a,b⟩,fun J=>?_,fun J=>⟨fun hn=>?_,fun j x hj hx hq=>?_⟩⟩
   ·simp only[den];split
    ·exact iM _ _
    ·exact b J
   ·simp_all[den,vp]
   ·simp only[den,vp];cases j with
    |zero=>
     simp at hj;subst hj;simp[aV,den]at hx;simp[<-hx]
    |succ j=>
     have h0:=hq 0 (by omega)
     simp at h0;rw[decide_eq_false (fun e=>h0 e.symm)]
     refine(c J).2 j x (by simpa using hj) (by simpa[aV]using hx) fun q hq'=>?_
     have:=hq (q+1) (by omega)
     simpa using this
  ·simp at h
theorem wU{kd:IntKind}{n z:Int}(hz:bU kd z):∀(ks:List Int) (vs:List V) (y:Int),yF kd n z ks vs=some y->cm K vs->
  bU kd y/\∀J:Env,(n∉ks->y=z)/\∀(j:Nat) x,ks[j]? =some n->(aV J vs)[j]? =some x->(∀q<j,ks[q]? ≠some n)-> .int kd y=x
 | [],[],y,h,hv=>by
   simp_all[yF]
 | [],_::_,y,h,hv=>by simp[yF]at h
 |_::_,[],y,h,hv=>by simp[yF]at h
 |k::ks,v::vs,y,h,hv=>by
  simp only[yF]at h;split at h
  ·rename_i kd' a ha;split at h
   ·rename_i hk;have hk:=aj.1 hk;subst hk;split at h<;>simp only[aa,reduceCtorEq]at h
    rename_i y' hy;subst h;obtain⟨b,c⟩:=wU hz ks vs y' hy hv.2;refine⟨?_,fun J=>⟨fun hn=>?_,fun j x hj hx hq=>?_⟩⟩
    ·cases vp n k
     ·exact b
     ·exact(bB (J:=⟨fun _=>0,fun _=>0,fun _=>default,fun _=>none,fun _=>0,fun _ _=>0⟩) ha hv.1).2
    ·simp only[List.mem_cons,not_or]at hn;simp only[vp];rw[decide_eq_false hn.1];exact(c J).1 hn.2
    ·simp only[vp];cases j with
     |zero=>
      simp at hj;subst hj;simp[aV]at hx;simp[KC,<-hx,(bB (J:=J) ha hv.1).1]
     |succ j=>
      have h0:=hq 0 (by omega)
      simp at h0;rw[decide_eq_false (fun e=>h0 e.symm)]
      refine(c J).2 j x (by simpa using hj) (by simpa[aV]using hx) fun q hq'=>?_
      have:=hq (q+1) (by omega)
      simpa using this
   ·simp at h
  ·simp at h
theorem Cu{n:Int}{z y:V}{ks:List Int}{vs:List V}(hz:ok (fun _=>False) z)(h:IV n z ks vs=some y)(hv:cm K vs):
  ok K y/\bp y=false/\∀J:Env,(n∉ks->den J y=den J z)/\∀(j:Nat) x,ks[j]? =some n->(aV J vs)[j]? =some x->(∀q<j,ks[q]? ≠some n)->den J y=x:=by
 unfold IV at h;split at h
 ·split at h
  ·obtain⟨a,b,c⟩:=wx (K:=K) (z:= .nl .nilFunc) rfl (fun _=>rfl) ks vs y h hv
   refine⟨a,?_,c⟩;cases ks with
   |nil=>cases vs<;>simp[sG]at h;subst h;rfl
   |cons k ks=>
    cases vs with
    |nil=>simp[sG]at h
    |cons v vs=>
     simp only[sG]at h;split at h
     ·split at h<;>simp only[aa,reduceCtorEq]at h
      subst h;rfl
     ·simp at h
  ·simp at h
 ·rename_i kd a;split at h<;>simp only[aa,reduceCtorEq]at h
  rename_i y' hy;subst h;obtain⟨b,c⟩:=wU (K:=K) (show bU kd a from hz) ks vs y' hy hv;exact⟨b,rfl,fun J=>⟨fun hn=>by simp only[den];rw[(c J).1 hn],fun j x h1 h2 h3=>by simp only[den];exact(c J).2 j x h1 h2 h3⟩⟩
 ·simp at h
theorem xN{C:Ctx}{t:Nat}{m x r:V}{two:Bool}(hC:C.vo)(h:aQ J fps res K w0 F0 w)(hl:Ea C res t m x two=some r)(hx:ok K x):
  (Instr.lookup t (den J m) (den J x) two).run C.P w= .ok (den J r) w/\ok K r:=by
 unfold Ea at hl;split at hl
 case h_2=>simp at hl
 rename_i i;split at hl
 case h_2=>simp at hl
 rename_i kd n hn;split at hl
 case h_2=>simp at hl
 rename_i kd' ks vs hr;split at hl
 case h_2=>simp at hl
 rename_i kt et hu;split at hl
 case h_2=>simp at hl
 rename_i kd'' hku;split at hl
 case isFalse=>simp at hl
 rename_i hkd;simp only[ah,aj]at hkd;obtain⟨rfl,rfl⟩:=hkd;split at hl
 case h_2=>simp at hl
 rename_i z hz;split at hl
 case h_2=>simp at hl
 rename_i y hy;obtain⟨hx1,hx2⟩:=bB (J:=J) hn hx;obtain⟨fp,hh,_⟩:=h.look hr (by simp)
 obtain⟨_,a2,a3,a4,a5,es,cl,b1,b2,b3⟩:=hh;obtain⟨_,_,_,hz3,hz4,_⟩:=hC et z hz;obtain⟨y1,y2,y3⟩:=Cu hz3 hy a2;obtain⟨q,q1,q2,q3⟩:=kz (n:=n) ks _ es.toList 0 b2 b3;have hck:=MapKept.run_checkKey (P:=C.P) (w:=w) (k:= .int kd n) hku rfl es.isEmpty 9999;have hfk:=MapKept.run_findKey (w:=w) hku q1;have hzr:=gU (J:=J) (w:=w) hC hz
 have main:(Instr.lookup t (den J (.mp i)) (den J x) two).run C.P w= .ok (if two then .tuple #[den J y,.bool (Gp n ks)]else den J y) w:=by
  rw[hx1];simp only[Instr.lookup,den,Sem.run_bind,aT w hu,Result.andThen_ok,MapKept.run_getObj_map b1,Sem.run_pure,hck,hfk];rcases q3 with⟨rfl,hnk⟩|⟨j,v,rfl,c1,c2,c3⟩
  ·simp_all
  ·simp only[Sem.run_pure,Result.andThen_ok];rw[(y3 J).2 j v c1 c2 c3,<-q2];rfl
 rw[main];cases two
 ·simp only[Bool.false_eq_true,if_false,aa]at hl;subst hl;exact⟨by simp,y1⟩
 ·simp only[if_true,aa]at hl;subst hl;exact⟨by simp[den,aV],y1,trivial,trivial⟩
theorem fJ.I5{nid:Nat}{kd:IntKind}(hn:¬K nid):
  fJ K J (J.aZ nid w.heap.size) nid [.mp kd [] []] w0 F0 w (w.alloc (.map #[] 0)):=by
 refine⟨(Below.refl _ _).alloc (Nat.le_refl _) _,eN J nid _,fun _ b=>b=w.heap.size,fun k hk=>?_,fun k l b hk hl hne=>?_⟩
 ·simp only[List.length_singleton,Nat.lt_one_iff]at hk;subst hk;refine⟨⟨by simp[Env.aZ],trivial,trivial,by simp,rfl, #[],0,?_,rfl,rfl⟩,fun b hb=>by subst hb;simp⟩
  rw[show(J.aZ nid w.heap.size).num (nid+0)=w.heap.size by simp[Env.aZ]]
  exact heap_alloc_new w _
 ·simp only[List.length_singleton,Nat.lt_one_iff]at hk hl;omega
theorem aQ.qE{w':World}{i:Nat}{r r':aI}{b:Nat}
  (h:aQ J fps res K w0 F0 w) (hi:aH res i=r) (hne:r≠ .yet) (hne':r'≠ .yet) (hfp:fps i b) (hnew:r'.holds K J i (fps i) w0 F0 w')
  (hos:w'.os=w.os) (htape:w'.tape=w.tape) (hout:w'.output=w.output) (hsize:w'.heap.size=w.heap.size) (hold:∀b',b'≠b->w'.heap[b']? =w.heap[b']?):
  aQ J fps (bd res i r') K w0 F0 w'/\∀j,known (bd res i r') j↔known res j:=by
 have hk:known res i:=by unfold known;rw[hi];exact hne
 have hlt:=aK hk
 have hkn:∀j,known (bd res i r') j↔known res j:=fun j=>by
  grind[known,aY]
 refine⟨⟨fun j hj=>h.sub j ((hkn j).1 hj),by rw[hsize];exact h.old,hos.trans h.os,htape.trans h.tape,hout.trans h.output,fun j hj=>?_,fun j b hj hb=>by rw[hsize];exact h.lt j b ((hkn j).1 hj) hb,
  fun j l b hj hl=>h.disj j l b ((hkn j).1 hj) ((hkn l).1 hl),fun j b hj=>h.inF j b ((hkn j).1 hj),fun c hc hF=>?_⟩,hkn⟩
 ·rw[aY _ _ _ _ hlt];by_cases e:j=i
  ·subst e;simp only[if_true];exact hnew
  ·simp only[ar e];have hj':=(hkn j).1 hj;refine aI.cy _ (h.holds j hj') fun c hc=>hold c fun eb=>?_
   subst eb;exact h.disj j i _ hj' hk e hc hfp
 ·rw[hold c fun e=>hF (e▸h.inF i b hk hfp (e▸hc))]
  exact h.same c hc hF
theorem tc(J:Env)(l:List V)(v:V):aV J (l++ [v])=aV J l++ [den J v]:=by simp[dY]
theorem AL{P:Program}{res':List aI}{t:Nat}{m x v:V}(h:aQ J fps res K w0 F0 w)(hs:FW P res t m x v=some res')(hv:ok K v):
  ∃w',(Instr.mapUpdate t (den J m) (den J x) (den J v)).run P w= .ok () w'/\aQ J fps res' K w0 F0 w'/\∀i,known res' i↔known res i:=by
 unfold FW at hs;split at hs
 case h_2=>simp at hs
 rename_i i;split at hs
 case h_2=>simp at hs
 rename_i kd n;split at hs
 case h_2=>simp at hs
 rename_i kd' ks vs hr;split at hs
 case h_2=>simp at hs
 rename_i kt et hu;split at hs
 case h_2=>simp at hs
 rename_i kd'' hku;split at hs
 case isFalse=>simp at hs
 rename_i hc;simp only[ah,aj,ai,Bool.not_eq_true',List.contains_eq_mem,decide_eq_false_iff_not]at hc;obtain⟨⟨⟨⟨rfl,rfl⟩,hin⟩,hnk⟩,htp⟩:=hc;simp only[aa]at hs;subst hs;have hk:known res i:=by unfold known;rw[hr];simp
 have hh:=h.holds i hk;rw[hr]at hh;obtain⟨a1,a2,a3,a4,a5,es,cl,b1,b2,b3⟩:=hh;obtain⟨q,q1,q2,q3⟩:=kz (n:=n) ks _ es.toList 0 b2 b3
 have hq:q=none:=by
  grind
 subst hq;have hck:=MapKept.run_checkKey (P:=P) (w:=w) (k:= .int kd n) hku rfl false 9999;have hfk:=MapKept.run_findKey (w:=w) hku q1;have hset:=MapKept.heap_set (w:=w) (r:=J.num i) (o':= .map (es.push {key:= .int kd n,val:=den J v,born:=cl}) (cl+1)) b1;refine⟨{w with heap:=w.heap.setIfInBounds (J.num i) (.map (es.push {key:= .int kd n,val:=den J v,born:=cl}) (cl+1))},?_,?_⟩
 ·simp only[Instr.mapUpdate,den,Sem.run_bind,aT w hu,Result.andThen_ok,MapKept.run_getObj_map b1,hck,hfk,MapKept.run_setObj_map _ b1]
 ·refine h.qE (b:=J.num i) hr (by simp) (by simp) a1 ⟨a1,?_,?_,?_,by simp[a5],_,_,hset.1,by simp[b2],by simp[b3,tc]⟩ rfl rfl rfl (by simp) hset.2
  ·grind[dZ]
  ·grind[bX]
  ·grind
end
end Go.Sx
namespace Go.Sx
open Go.RowKit (Below)
def fm:List V->Option (List (Bool×Int))
 | []=>some []
 |x::l=>match toInt x with
  |some (k,n)=>if k== .i64 then match fm l with
   |some m=>some ((oG x,n)::m)
   |none=>none
   else none
  |none=>none
def Jz:List (Bool×Int)->Bool
 | []=>true
 | (c,_)::l=>c&&Jz l
def bj:List (Bool×Int)->List Int
 | []=> []
 | (_,n)::l=>n::bj l
def JM:V->V->V
 | .cb true,y=>y
 | .cb false,_=> .cb false
 |x,.cb true=>x
 |_,.cb false=> .cb false
 | .bo a,.bo b=> .bo (GR a b)
 |_,_=> .nl undef
def LY:V->V->V
 | .cb false,y=>y
 | .cb true,_=> .cb true
 |x,.cb false=>x
 |_,.cb true=> .cb true
 | .bo a,.bo b=> .bo (Ji a b)
 |_,_=> .nl undef
theorem Bm{x y:V}{a b:Bool}(h1:toBool x=some a)(h2:toBool y=some b):toBool (JM x y)=some (a&&b):=by
 cases x<;>simp[toBool]at h1<;>cases y<;>simp[toBool]at h2<;>subst h1<;>subst h2
 all_goals(rename_i p q;cases p<;>cases q<;>rfl)
theorem CT{x y:V}{a b:Bool}(h1:toBool x=some a)(h2:toBool y=some b):toBool (LY x y)=some (a||b):=by
 cases x<;>simp[toBool]at h1<;>cases y<;>simp[toBool]at h2<;>subst h1<;>subst h2
 all_goals(rename_i p q;cases p<;>cases q<;>rfl)
def Lz(c:Bool)(n k:Int):V:=if c then .cb (decide (n=k))else .bo (vp n k)
theorem Dt(c:Bool)(n k:Int):toBool (Lz c n k)=some (decide (n=k)):=by cases c<;>simp[Lz,toBool,vp]
def xT:List (Bool×Int)->List Int->V
 | [],[]=> .cb true
 | (c,n)::l,k::m=>JM (Lz c n k) (xT l m)
 |_,_=> .cb false
theorem oV:∀(l:List (Bool×Int)) (m:List Int),toBool (xT l m)=some (decide (bj l=m))
 | [],[]=>rfl
 | [],_::_=>by simp[xT,bj,toBool]
 |_::_,[]=>by simp[xT,bj,toBool]
 | (c,n)::l,k::m=>by
   simp_all[xT,bj,Bm,Dt,oV]
def uK(x:List (Bool×Int))(z:V):List (List Int)->List V->Option V
 | [],[]=>some z
 |k::ks,v::vs=>match v with
  | .fn f l=>match xT x k with
    | .cb true=>some (.fn f l)
    | .cb false=>uK x z ks vs
    | .bo b=>match uK x z ks vs with
      |some y=>some (.ch b f l y)
      |none=>none
    |_=>none
  |_=>none
 |_,_=>none
def E6(x:List (Bool×Int)):List (List Int)->V
 | []=> .cb false
 |k::ks=>LY (xT x k) (E6 x ks)
theorem sY(x:List (Bool×Int)):∀ks,toBool (E6 x ks)=some (decide (bj x∈ks))
 | []=>rfl
 |k::ks=>by
  simp_all[E6,CT,oV,sY]
def kf(P:Program)(kt n:Nat):Bool:=
 Nat.ble 2 n&&flatK P 8 kt==some (List.replicate n (.i .i64))&&match P.underlying kt with
  |some (.struct fs)=>fs.toList.all fun f=>match P.underlying f.type with
   |some (.int _)=>true
   |_=>false
  |_=>false
def xc(n:Nat):List (List Int)->Bool
 | []=>true
 |k::ks=>k.length==n&&xc n ks
theorem mX{n:Nat}:∀{ks:List (List Int)},xc n ks=true->∀k∈ks,k.length=n
 | [],_,_,h=>by simp at h
 |k::ks,h,c,hc=>by
  simp only[xc,ah,aj]at h;rcases List.mem_cons.1 hc with rfl|hc
  ·exact h.1
  ·exact mX h.2 c hc
def BX(C:Ctx)(res:List aI)(t:Nat)(m x:V)(two:Bool):Option V:=
 match m with
 | .mp i=>match x with
   | .ag xl=>match fm xl with
     |some l=>match bD res i with
      | .mq ks vs=>match C.P.underlying t with
        |some (.map kt et)=>if kf C.P kt l.length&&xc l.length ks then match C.Z et with
         |some z=>match z with
          | .nl v=>match v with
            | .nilFunc=>match uK l (.nl .nilFunc) ks vs with
              |some y=>if two then some (.tp [y,E6 l ks])else some y
              |none=>none
            |_=>none
          |_=>none
         |none=>none
         else none
        |_=>none
      |_=>none
     |none=>none
   |_=>none
 |_=>none
def FI(P:Program)(res:List aI)(t:Nat)(m x v:V):Option (List aI):=
 match m with
 | .mp i=>match x with
   | .ag xl=>match fm xl with
     |some l=>match aH res i with
      | .mq ks vs=>match P.underlying t with
        |some (.map kt et)=>if kf P kt l.length&&xc l.length ks&&Jz l&& !ks.contains (bj l)&& !bp v then some (bd res i (.mq (ks++ [bj l]) (vs++ [v])))else none
        |_=>none
      |_=>none
     |none=>none
   |_=>none
 |_=>none
section
variable {J:Env} {fps:Nat->Nat->Prop} {res:List aI} {K:Nat->Prop} {w0 w:World} {F0:Nat->Prop} {P:Program}
theorem gP{xl:List V}{l:List (Bool×Int)}(h:fm xl=some l)(hk:cm K xl):den J (.ag xl)=cF (bj l)/\(bj l).length=l.length:=by
 have:∀(xl:List V) (l:List (Bool×Int)),fm xl=some l->cm K xl->aR J xl=(bj l).map i64/\(bj l).length=l.length:=by
  intro xl;induction xl with
  |nil=>intro l h _;simp only[fm,aa]at h;subst h;exact⟨rfl,rfl⟩
  |cons x xl ih=>
   intro l h hk;simp only[fm]at h;split at h
   case h_2=>simp at h
   rename_i k n hn;split at h
   case isFalse=>simp at h
   rename_i hki;have hki:=aj.1 hki;subst hki;split at h<;>simp only[aa,reduceCtorEq]at h
   rename_i m hm;subst h;obtain⟨a,b⟩:=ih m hm hk.2;refine⟨?_,by simp[bj,b]⟩
   simp only[aR,bj,List.map_cons,a,(bB (J:=J) hn hk.1).1];rfl
 obtain⟨a,b⟩:=this xl l h hk;exact⟨by simp only[den,cF,a],b⟩
theorem oa:∀{a b:List Int},a.map i64=b.map i64↔a=b
 | [],[]=>by simp
 | [],_::_=>by simp
 |_::_,[]=>by simp
 |x::a,y::b=>by simp[oa (a:=a) (b:=b),i64]
theorem rl:∀(l:List Int),gE (List.replicate l.length (.i .i64)) (l.map i64)
 | []=>trivial
 |n::l=>⟨⟨n,rfl⟩,rl l⟩
theorem Gk{kt n:Nat}(hk:kf P kt n=true){a b:List Int}(ha:a.length=n)(hb:b.length=n)(w:World):
  ∃r,(Op.equal kt (cF a) (cF b)).run P w= .ok r w/\(r=true↔a=b):=by
 unfold kf at hk;simp only[ah,aj]at hk;obtain⟨⟨h2,hf⟩,_⟩:=hk;have h2:=Nat.le_of_ble_eq_true h2;have hagg:fM P kt=some true:=fH hf (by simpa using h2)
 obtain⟨r,h1,h3⟩:=lr (P:=P) 8 10000 (by omega) kt _ true (a.map i64) (b.map i64) hf hagg (by rw[<-ha];exact rl a) (by rw[<-hb];exact rl b) w
 exact⟨r,h1,by rw[h3,oa]⟩
theorem jX{kt n:Nat}(hk:kf P kt n=true){a:List Int}(ha:a.length=n)(em:Bool)(w:World):(Instr.checkKey em 10000 kt (cF a)).run P w= .ok () w:=by
 unfold kf at hk;simp only[ah,aj]at hk;obtain⟨⟨h2,hf⟩,hs⟩:=hk;split at hs
 case h_2=>simp at hs
 rename_i fs hu;unfold flatK at hf;simp only[hu]at hf;split at hf
 ·simp at hf
 split at hf
 ·simp at hf
 rename_i ks hks;split at hf<;>simp only[aa,reduceCtorEq]at hf
 have hl:ks.length=(a.map i64).length:=by rw[hf];simp[ha]
 clear hf;rw[show(10000:Nat)=9998+1+1 from rfl,Instr.checkKey];simp only[Sem.run_bind,aT w hu,Result.andThen_ok,cF];rw[<-Array.forIn_toList];generalize a.map i64=X at hl⊢
 have key:∀(L:List Field) (off:Nat) (ks:List Kd),fQ (flatK P 7) off L=some ks->off+ks.length<=X.length->(∀f∈L,(match P.underlying f.type with|some (.int _)=>true|_=>false)=true)->
   (forIn L PUnit.unit fun f (_:PUnit)=>if f.name≠ "_" then(do
    let v<-part f.type X.toArray f.offset
    Instr.checkKey em (9998+1) f.type v
    pure (ForInStep.yield PUnit.unit):Sem (ForInStep PUnit))else pure (ForInStep.yield PUnit.unit)).run P w= .ok () w:=by
  intro L;induction L with
  |nil=>intro off ks _ _ _;simp
  |cons f L ih=>
   intro off ks h hle hi;simp only[fQ]at h;split at h
   case isFalse=>simp at h
   rename_i hc;simp only[ah,bne_iff_ne,ne_eq,aj]at hc;obtain⟨hn,ho⟩:=hc;cases hg:flatK P 7 f.type with
   |none=>simp[hg]at h
   |some k1=>
    simp only[hg]at h;cases hr:fQ (flatK P 7) (off+k1.length) L with
    |none=>simp[hr]at h
    |some k2=>
     simp only[hr,Option.map_some,aa]at h;subst h;simp only[List.length_append]at hle;obtain⟨b,hb⟩:=lU hg;have e1:=eW (xs:=X) (off:=off) w hg hb (by omega)
     have hif:=hi f (by simp)
     split at hif
     case h_2=>simp at hif
     rename_i ik hik
     have e2:∀v,(Instr.checkKey em (9998+1) f.type v).run P w= .ok () w:=fun v=>by
      rw[Instr.checkKey];simp only[Sem.run_bind,aT w hik,Result.andThen_ok];rfl
     have e3:=ih (off+k1.length) k2 hr (by omega) fun g hg=>hi g (by simp[hg])
     simp only[List.forIn_cons,Sem.run_bind,hn,ne_eq,not_false_eq_true,if_true,ho,e1,Result.andThen_ok,e2,Sem.run_pure];exact e3
 have:=key fs.toList 0 ks hks (by omega) fun f hf=>by simpa using List.all_eq_true.1 hs f hf
 rw[this];rfl
theorem j9{kt n:Nat}(hk:kf P kt n=true){x:List Int}(hx:x.length=n)(w:World):∀(l:List MapEntry) (i:Nat),(∀e∈l,∃k:List Int,k.length=n/\e.key=cF k)->
  ∃r,(Instr.findAsking kt (cF x) l i).run P w= .ok r w/\
   ((r=none/\∀e∈l,e.key≠cF x)\/∃j e,r=some (i+j,e.val)/\l[j]? =some e/\e.key=cF x)
 | [],i,h=>⟨none,rfl,.inl ⟨rfl,by simp⟩⟩
 |e::l,i,h=>by
  obtain⟨k,hkl,hke⟩:=h e (by simp)
  obtain⟨b,hb,hbi⟩:=Gk hk hx hkl w;cases b with
  |true=>
   have:=hbi.1 rfl;subst this;exact⟨some (i,e.val),by simp[Instr.findAsking,hke,hb],.inr ⟨0,e,rfl,rfl,hke⟩⟩
  |false=>
   have hne:e.key≠cF x:=fun e'=>by
    rw[hke]at e';have:x=k:=(oa.1 (by simpa[cF]using e')).symm
    have:=hbi.2 this;simp at this
   obtain⟨r,r1,r3⟩:=j9 hk hx w l (i+1) fun e he=>h e (by simp[he])
   refine⟨r,by simp[Instr.findAsking,hke,hb,r1],?_⟩
   rcases r3 with⟨a,b⟩|⟨j,e',a,b,c⟩
   ·simp_all
   ·exact .inr ⟨j+1,e',by rw[a];congr 2;omega,by simpa using b,c⟩
theorem jU{kt n:Nat}(hk:kf P kt n=true){x:List Int}(hx:x.length=n)(w:World)(l:List MapEntry)(h:∀e∈l,∃k:List Int,k.length=n/\e.key=cF k):
  ∃r,(Instr.findKey kt (cF x) l).run P w= .ok r w/\
   ((r=none/\∀e∈l,e.key≠cF x)\/∃j e,r=some (j,e.val)/\l[j]? =some e/\e.key=cF x):=by
 obtain⟨r,h1,h2⟩:=j9 hk hx w l 0 h;simp only[Nat.zero_add]at h2;refine⟨r,?_,h2⟩;unfold kf at hk;simp only[ah,aj]at hk;obtain⟨_,hs⟩:=hk;split at hs
 case h_2=>simp at hs
 rename_i fs hu;cases l with
 |nil=>
  simp only[Instr.findAsking,Sem.run_pure,Result.ok.injEq,and_true]at h1;subst h1;simp[Instr.findKey,aT w hu,Instr.findNow]
 |cons e l=>
  have:Instr.findNow (.struct fs) (cF x) (e::l) 0=none:=by
   simp only[Instr.findNow,cF,Instr.sameNow]
  simp[Instr.findKey,aT w hu,this,h1]
theorem zJ{a b:List Int}(h:cF a=cF b):a=b:=oa.1 (by simpa[cF]using h)
theorem tR{ks:List (List Int)}{xs:List Value}{l:List MapEntry}{x:List Int}{r:Option (Nat×Value)}(hp:(l.map fun e=>(e.key,e.val)).Perm ((ks.map cF).zip xs))(hl:ks.length=xs.length)(hn:ks.Nodup)
  (h:(r=none/\∀e∈l,e.key≠cF x)\/∃j e,r=some (j,e.val)/\l[j]? =some e/\e.key=cF x):
  (r=none/\x∉ks)\/∃(i j:Nat) (v:Value),r=some (i,v)/\ks[j]? =some x/\xs[j]? =some v/\∀q<j,ks[q]? ≠some x:=by
 rcases h with⟨rfl,h⟩|⟨j,e,rfl,h1,h2⟩
 ·refine .inl ⟨rfl,fun hm=>?_⟩
  obtain⟨q,hq,rfl⟩:=List.getElem_of_mem hm
  have:(cF ks[q],xs[q]'(by omega))∈(ks.map cF).zip xs:=by
   rw[List.mem_iff_getElem];exact⟨q,by simp;omega,by simp⟩
  obtain⟨e,he,hee⟩:=List.mem_map.1 (hp.mem_iff.2 this);simp only[ae]at hee;exact h e he hee.1
 ·have:(e.key,e.val)∈(ks.map cF).zip xs:=hp.mem_iff.1 (List.mem_map.2 ⟨e,List.mem_of_getElem? h1,rfl⟩);rw[List.mem_iff_getElem]at this;obtain⟨q,hq,hqe⟩:=this;simp only[List.length_zip,List.length_map]at hq;simp only[List.getElem_zip,List.getElem_map,ae]at hqe;have hk:ks[q]'(by omega)=x:=zJ (hqe.1.trans h2)
  refine .inr ⟨j,q,e.val,rfl,by rw[List.getElem?_eq_getElem (by omega),hk],by rw[List.getElem?_eq_getElem (by omega),hqe.2],fun p hp' he=>?_⟩
  rw[List.getElem?_eq_getElem (by omega)]at he
  simp only[aa]at he;exact List.pairwise_iff_getElem.1 hn p q (by omega) (by omega) hp' (he.trans hk.symm)
theorem perm_keys{ks:List (List Int)}{xs:List Value}{l:List MapEntry}{n:Nat}(hp:(l.map fun e=>(e.key,e.val)).Perm ((ks.map cF).zip xs))(hl:∀k∈ks,k.length=n):∀e∈l,∃k:List Int,k.length=n/\e.key=cF k:=fun e he=>by
 have:=List.of_mem_zip (hp.mem_iff.1 (List.mem_map.2 ⟨e,he,rfl⟩));obtain⟨k,hk,hke⟩:=List.mem_map.1 this.1;exact⟨k,hl k hk,hke.symm⟩
theorem np{x:List (Bool×Int)}{z:V}(hz:ok K z)(hz1:∀J:Env,(den J z).oneCell'=true):∀(ks:List (List Int)) (vs:List V) (y:V),uK x z ks vs=some y->cm K vs->
  ok K y/\(∀J:Env,(den J y).oneCell'=true)/\∀J:Env,(bj x∉ks->den J y=den J z)/\∀(j:Nat) v,ks[j]? =some (bj x)->(aV J vs)[j]? =some v->(∀q<j,ks[q]? ≠some (bj x))->den J y=v
 | [],[],y,h,hv=>by
   simp_all[uK]
 | [],_::_,y,h,hv=>by simp[uK]at h
 |_::_,[],y,h,hv=>by simp[uK]at h
 |k::ks,v::vs,y,h,hv=>by
  simp only[uK]at h;split at h
  case h_2=>simp at h
  rename_i f l;have hke:=oV x k
  have tail:∀y',uK x z ks vs=some y'->bj x≠k->∀J:Env,(bj x∉k::ks->den J y'=den J z)/\∀(j:Nat) v,(k::ks)[j]? =some (bj x)->(aV J (.fn f l::vs))[j]? =some v->(∀q<j,(k::ks)[q]? ≠some (bj x))->den J y'=v:=by
   intro y' hy' hne J;obtain⟨_,_,c⟩:=np hz hz1 ks vs y' hy' hv.2;refine⟨fun hn=>(c J).1 fun h=>hn (by simp[h]),fun j v hj hx hq=>?_⟩
   cases j with
   |zero=>simp at hj;exact absurd hj.symm hne
   |succ j=>
    refine(c J).2 j v (by simpa using hj) (by simpa[aV]using hx) fun q hq'=>?_
    have:=hq (q+1) (by omega)
    simpa using this
  have head:bj x=k->∀J:Env,(bj x∉k::ks->den J (.fn f l)=den J z)/\∀(j:Nat) v,(k::ks)[j]? =some (bj x)->(aV J (.fn f l::vs))[j]? =some v->(∀q<j,(k::ks)[q]? ≠some (bj x))->den J (.fn f l)=v:=by
   intro he J;refine⟨fun hn=>absurd (by simp[he]) hn,fun j v hj hx hq=>?_⟩
   cases j with
   |zero=>simpa[aV]using hx
   |succ j=>exact absurd (by simp[he]) (hq 0 (by omega))
  split at h
  ·rename_i hk;rw[hk]at hke;have he:bj x=k:=by simpa[toBool]using hke
   simp only[aa]at h;subst h;exact⟨hv.1,fun J=>iM _ _,head he⟩
  ·rename_i hk;rw[hk]at hke;have hne:bj x≠k:=by simpa[toBool]using hke
   obtain⟨a,b,_⟩:=np hz hz1 ks vs y h hv.2;exact⟨a,b,tail y h hne⟩
  ·rename_i b hk;rw[hk]at hke;have hb:b=decide (bj x=k):=by simpa[toBool]using hke
   subst hb;split at h<;>simp only[aa,reduceCtorEq]at h
   rename_i y' hy';subst h;obtain⟨a,b,_⟩:=np hz hz1 ks vs y' hy' hv.2;refine⟨⟨hv.1,a,b⟩,fun J=>?_,fun J=>?_⟩
   ·simp only[den];split
    ·exact iM _ _
    ·exact b J
   ·by_cases he:bj x=k
    ·grind[den]
    ·grind[den]
  ·simp at h
theorem AF{v:V}{b:Bool}(h:toBool v=some b)(J:Env):den J v= .bool b/\ok K v/\bp v=false:=by
 cases v<;>simp[toBool]at h<;>subst h<;>exact⟨rfl,trivial,rfl⟩
theorem yE{C:Ctx}{t:Nat}{m x r:V}{two:Bool}(hC:C.vo)(h:aQ J fps res K w0 F0 w)(hl:BX C res t m x two=some r)(hx:ok K x):
  (Instr.lookup t (den J m) (den J x) two).run C.P w= .ok (den J r) w/\ok K r:=by
 unfold BX at hl;split at hl
 case h_2=>simp at hl
 rename_i i;split at hl
 case h_2=>simp at hl
 rename_i xl;split at hl
 case h_2=>simp at hl
 rename_i l hxl;split at hl
 case h_2=>simp at hl
 rename_i ks vs hr;split at hl
 case h_2=>simp at hl
 rename_i kt et hu;split at hl
 case isFalse=>simp at hl
 rename_i hc;simp only[ah]at hc;obtain⟨hwide,hlens⟩:=hc;have hlens:=mX hlens;split at hl
 case h_2=>simp at hl
 rename_i z hz;split at hl
 case h_2=>simp at hl
 rename_i v;split at hl
 case h_2=>simp at hl
 split at hl
 case h_2=>simp at hl
 rename_i y hy;obtain⟨hx1,hx2⟩:=gP (J:=J) hxl hx.1;obtain⟨fp,hh,_⟩:=h.look hr (by simp)
 obtain⟨_,a2,a3,⟨a5,a6⟩,es,cl,b1,b2⟩:=hh;obtain⟨y1,y2,y3⟩:=np (K:=K) (z:= .nl .nilFunc) rfl (fun _=>rfl) ks vs y hy a2
 obtain⟨q,q1,q3⟩:=jU hwide hx2 w es.toList (perm_keys b2 hlens);have q3:=tR b2 (by rw[a5,dY,List.length_map]) a6 q3
 have hck:=jX hwide hx2 es.isEmpty w;have hzr:=gU (J:=J) (w:=w) hC hz;obtain⟨f1,f2,_⟩:=AF (K:=K) (sY l ks) J
 have main:(Instr.lookup t (den J (.mp i)) (den J (.ag xl)) two).run C.P w= .ok (if two then .tuple #[den J y,.bool (decide (bj l∈ks))]else den J y) w:=by
  rw[hx1];simp only[Instr.lookup,den,Sem.run_bind,aT w hu,Result.andThen_ok,MapKept.run_getObj_map b1,Sem.run_pure,hck,q1];rcases q3 with⟨rfl,hnk⟩|⟨_,j,v,rfl,c1,c2,c3⟩
  ·simp_all
  ·have hmem:bj l∈ks:=List.mem_of_getElem? c1;simp only[Sem.run_pure,Result.andThen_ok];rw[(y3 J).2 j v c1 c2 c3];simp[hmem]
 rw[main];cases two
 ·simp only[Bool.false_eq_true,if_false,aa]at hl;subst hl;exact⟨by simp,y1⟩
 ·simp only[if_true,aa]at hl;subst hl;exact⟨by simp[den,aV,f1],y1,f2,trivial⟩
theorem fJ.yW{nid:Nat}(hn:¬K nid):
  fJ K J (J.aZ nid w.heap.size) nid [.mq [] []] w0 F0 w (w.alloc (.map #[] 0)):=by
 refine⟨(Below.refl _ _).alloc (Nat.le_refl _) _,eN J nid _,fun _ b=>b=w.heap.size,fun k hk=>?_,fun k l b hk hl hne=>?_⟩
 ·simp only[List.length_singleton,Nat.lt_one_iff]at hk;subst hk;refine⟨⟨by simp[Env.aZ],trivial,trivial,⟨rfl,List.nodup_nil⟩, #[],0,?_,List.Perm.refl _⟩,fun b hb=>by subst hb;simp⟩
  rw[show(J.aZ nid w.heap.size).num (nid+0)=w.heap.size by simp[Env.aZ]]
  exact heap_alloc_new w _
 ·simp only[List.length_singleton,Nat.lt_one_iff]at hk hl;omega
theorem Aj{res':List aI}{t:Nat}{m x v:V}(h:aQ J fps res K w0 F0 w)(hs:FI P res t m x v=some res')(hx:ok K x)(hv:ok K v):
  ∃w',(Instr.mapUpdate t (den J m) (den J x) (den J v)).run P w= .ok () w'/\aQ J fps res' K w0 F0 w'/\∀i,known res' i↔known res i:=by
 unfold FI at hs;split at hs
 case h_2=>simp at hs
 rename_i i;split at hs
 case h_2=>simp at hs
 rename_i xl;split at hs
 case h_2=>simp at hs
 rename_i l hxl;split at hs
 case h_2=>simp at hs
 rename_i ks vs hr;split at hs
 case h_2=>simp at hs
 rename_i kt et hu;split at hs
 case isFalse=>simp at hs
 rename_i hc;simp only[ah,Bool.not_eq_true',List.contains_eq_mem,decide_eq_false_iff_not]at hc;obtain⟨⟨⟨⟨hwide,hlens⟩,_⟩,hnk⟩,htp⟩:=hc;have hlens:=mX hlens;simp only[aa]at hs;subst hs;have hk:known res i:=by unfold known;rw[hr];simp
 have hh:=h.holds i hk;rw[hr]at hh;obtain⟨a1,a2,a3,⟨a5,a6⟩,es,cl,b1,b2⟩:=hh;obtain⟨hx1,hx2⟩:=gP (J:=J) hxl hx.1;obtain⟨q,q1,q3⟩:=jU hwide hx2 w es.toList (perm_keys b2 hlens);have q3:=tR b2 (by rw[a5,dY,List.length_map]) a6 q3
 have hq:q=none:=by
  grind
 subst hq;have hck:=jX hwide hx2 false w;have hset:=MapKept.heap_set (w:=w) (r:=J.num i) (o':= .map (es.push {key:=cF (bj l),val:=den J v,born:=cl}) (cl+1)) b1;refine⟨{w with heap:=w.heap.setIfInBounds (J.num i) (.map (es.push {key:=cF (bj l),val:=den J v,born:=cl}) (cl+1))},?_,?_⟩
 ·rw[hx1];simp only[Instr.mapUpdate,den,Sem.run_bind,aT w hu,Result.andThen_ok,MapKept.run_getObj_map b1,hck,q1,MapKept.run_setObj_map _ b1]
 ·refine h.qE (b:=J.num i) hr (by simp) (by simp) a1 ⟨a1,?_,?_,⟨by simp[a5],?_⟩,_,_,hset.1,?_⟩ rfl rfl rfl (by simp) hset.2
  ·grind[dZ]
  ·grind[bX]
  ·grind
  ·simp only[Array.toList_push,List.map_append,List.map_cons,List.map_nil,tc];rw[List.zip_append (by simp[a5,dY])]
   exact List.Perm.append_right _ b2
end
end Go.Sx
namespace Go.Sx
open Go.RowKit (Below)
def Jv(n b:Nat):Prop:=n<=maxLen/\n*b<=140737488355328
def Ff(q:Option Prop)(p:Prop):Option Prop:=match q with
 |none=>some p
 |some q=>some (q/\p)
theorem vu{q:Option Prop}{p:Prop}:bq (Ff q p)↔bq q/\p:=by cases q<;>simp[Ff,bq]
def uV{α:Type}(l:List α)(lo hi:Nat):List α:=(l.drop lo).take (hi-lo)
def zA(l:TL)(lo hi:Nat):Option TL:=
 match l with
 | .qs n Q=>some (.qs n (uV Q lo hi))
 | .it k L=>some (.it k (uV L lo hi))
 | .ob L=>some (.ob (uV L lo hi))
 |_=>none
def L1(lo hi n:Nat):Prop:=lo<=hi/\hi<=n
def Gb(res:List aI)(y:V):Option (Option Prop×Nat×TL):=
 match y with
 | .sa j=>match bD res j with
   | .arr _ esz l=>some (none,esz,l)
   |_=>none
 | .vw j esz lo hi=>match bD res j with
   | .arr (some _) esz' l=>if esz==esz' then(zA l lo hi).map fun l'=>(some (L1 lo hi l.len),esz,l')else none
   |_=>none
 |_=>none
theorem rh{α:Type}(l:List α){lo hi i:Nat}(d:α)(h:i<hi-lo):(uV l lo hi).getD i d=l.getD (lo+i) d:=by
 unfold uV;rw[aq,List.getElem?_take_of_lt h,List.getElem?_drop,<-aq]
theorem qD{Q Q':List (List Int)}{j j':Nat}(h:∀c,cr Q j c=cr Q' j' c):∀(m c:Nat),qL Q j c m=qL Q' j' c m
 |0,c=>rfl
 |m+1,c=>by simp only[qL,h c,qD h m (c+1)]
theorem xY{l l':TL}{lo hi:Nat}(h:zA l lo hi=some l')(hb:hi<=l.len):l'.len=hi-lo/\∀i,i<hi-lo->l'.get i=l.get (lo+i):=by
 unfold zA at h;cases l<;>simp only[aa,reduceCtorEq]at h<;>subst h<;>simp only[TL.len,aN]at hb
 ·refine⟨by simp only[TL.len,aN,uV,List.length_take,List.length_drop];omega,fun i hi=>?_⟩
  simp only[TL.get,aX,rh _ _ hi]
 ·refine⟨by simp only[TL.len,aN,uV,List.length_take,List.length_drop];omega,fun i hi=>?_⟩
  simp only[TL.get,aX,rh _ _ hi]
 ·refine⟨by simp only[TL.len,aN,uV,List.length_take,List.length_drop];omega,fun i hi=>?_⟩
  simp only[TL.get];rw[qD fun c=>show(((uV _ lo _).getD i []).getD c 0)=_ from by rw[rh _ _ hi];rfl]
theorem r7{l:TL}{esz k:Nat}{u:Value}(hlen:∀i,i<l.len->(cells Env.zero (l.get i)).length=esz)(hu:l.cells[k]? =some u):∃i r,i<l.len/\r<esz/\k=i*esz+r/\(cells Env.zero (l.get i))[r]? =some u:=by
 have hxl:l.cells.length=l.len*esz:=by
  unfold TL.cells
  have:∀n,n<=l.len->((List.range n).flatMap fun j=>cells Env.zero (l.get j)).length=n*esz:=by
   intro n;induction n with
   |zero=>simp
   |succ n ih=>
    intro hn;rw[List.range_succ,List.flatMap_append,List.length_append,ih (by omega)]
    simp[hlen n (by omega),Nat.succ_mul]
  exact this _ (Nat.le_refl _)
 have hk:k<l.len*esz:=by rw[<-hxl];exact(List.getElem?_eq_some_iff.1 hu).1
 have hsz:0<esz:=by
  rcases Nat.eq_zero_or_pos esz with h|h
  ·subst h;simp at hk
  ·exact h
 have hdiv:k / esz<l.len:=(Nat.div_lt_iff_lt_mul hsz).2 hk;have hmod:k%esz<esz:=Nat.mod_lt _ hsz;have hkk:k / esz*esz+k%esz=k:=by rw[Nat.mul_comm];exact Nat.div_add_mod k esz
 exact⟨_,_,hdiv,hmod,hkk.symm,by rw[<-nH (f:=fun i=>cells Env.zero (l.get i)) hlen hdiv hmod,hkk];exact hu⟩
theorem vC{J:Env}{fps:Nat->Nat->Prop}{res:List aI}{K:Nat->Prop}{w0 w:World}{F0:Nat->Prop}{y:V}{q:Option Prop}{esz:Nat}{l':TL}(hH:aQ J fps res K w0 F0 w)(h:Gb res y=some (q,esz,l'))(hq:bq q):
  (∀i,i<l'.len->ok (fun _=>False) (l'.get i)/\bp (l'.get i)=false/\bP (l'.get i)=esz)/\l'.len<=9223372036854775807/\
   ∃ao cap,den J y= .slice ao l'.len cap/\(0<l'.len->ao.isSome=true)/\∀a,ao=some a->∀k u,l'.cells[k]? =some u->w.cell? (a.add k)=some u:=by
 have lit:∀(a:Addr) (k:Nat),a.spot=none->a.add k=⟨a.block,a.off+k,none⟩:=fun a k hs=>by
  cases a with
  |mk b o s=>simp only at hs;subst hs;rw[add_lit]
 unfold Gb at h;split at h
 ·rename_i j;split at h<;>simp only[aa,ae,reduceCtorEq]at h
  rename_i own esz' l hr;obtain⟨_,rfl,rfl⟩:=h;have hcl:=fun(i:Nat) (hi:i<l.len)=>fO hH hr hi
  obtain⟨fp,hh,_⟩:=hH.look hr (by simp)
  obtain⟨a1,a2,a3,a4,a5,a6,_⟩:=hh;refine⟨a1,a3,J.sa j,J.cap j,by simp[den,a2],a5,fun a ha k u hu=>?_⟩
  obtain⟨i,r,hi,hr',rfl,hu'⟩:=r7 (fun i hi=>by rw[aO Env.zero _ (hcl i hi).1];exact(hcl i hi).2.2.1) hu
  have:=a4 a ha;subst this;rw[lit _ _ (a6 (by omega)),(hcl i hi).2.2.2 r hr',bw (N:=fun _=>False) (J:=Env.zero) (ρ':=J) (fun _ h=>h.elim) _ (hcl i hi).1]
  exact hu'
 ·rename_i j esz1 lo hi;split at h
  case h_2=>simp at h
  rename_i e esz' l hr;split at h
  case isFalse=>simp at h
  rename_i he;have he:=aj.1 he;subst he;cases hs:zA l lo hi with
  |none=>simp[hs]at h
  |some l2=>
   simp only[hs,Option.map_some,aa,ae]at h;obtain⟨rfl,rfl,rfl⟩:=h;obtain⟨q1,q2⟩:=(show L1 lo hi l.len from hq);obtain⟨s1,s2⟩:=xY hs q2;have hcl:=fun(i:Nat) (hi:i<l.len)=>fO hH hr hi
   obtain⟨fp,hh,_⟩:=hH.look hr (by simp)
   obtain⟨a1,a2,a3,a4,a5,a6,a7⟩:=hh
   have hel:∀i,i<l2.len->ok (fun _=>False) (l2.get i)/\bp (l2.get i)=false/\bP (l2.get i)=esz1:=fun i hi=>by
    rw[s2 i (by omega)];exact a1 _ (by omega)
   rcases a7 with⟨b1,_⟩|⟨e2,b1,b2,b3⟩
   ·simp at b1
   have hcap:0<l.len->l.len<=J.cap j:=fun h0=>by
    rcases b2.2 with⟨_,hz⟩|⟨g,cap,cur,hv,_,_,hn,_⟩
    ·omega
    ·simp only[Env.sl,Value.slice.injEq]at hv;rw[hv.2.2];exact hn
   refine⟨hel,by omega,if J.cap j=lo then J.sa j else(J.sa j).map (·.add (lo*esz1)),J.cap j-lo,by simp only[den,wb,s1],fun h0=>?_,fun a ha k u hu=>?_⟩
   ·have:=a5 (by omega)
    split
    ·exact this
    ·simpa using this
   ·obtain⟨i,r,hi',hr',rfl,hu'⟩:=r7 (fun i hi=>by rw[aO Env.zero _ (hel i hi).1];exact(hel i hi).2.2) hu
    have hlt:lo+i<l.len:=by omega
    have hne:J.cap j≠lo:=by have:=hcap (by omega);omega
    rw[ar hne]at ha;cases hsa:J.sa j with
    |none=>rw[hsa]at ha;simp at ha
    |some a0=>
     rw[hsa]at ha;simp only[Option.map_some,aa]at ha;have h0:=a4 a0 hsa;subst h0;have hsp:=a6 (by omega)
     have e1:a.add (i*esz1+r)=⟨(J.adr j).block,(J.adr j).off+((lo+i)*esz1+r),none⟩:=by
      rw[<-ha,lit _ _ hsp,add_lit,Nat.add_mul];congr 1
      omega
     rw[e1,(hcl _ hlt).2.2.2 r hr',bw (N:=fun _=>False) (J:=Env.zero) (ρ':=J) (fun _ h=>h.elim) _ (hcl _ hlt).1,<-s2 i (by omega)]
     exact hu'
 ·simp at h
def Dm(C:Ctx)(res:List aI)(nid:Nat)(ts:List Nat)(xs:List V):Option (Option Prop×V×List aI):=
 match ts,xs with
 | [t,t'],[x,y]=>match x with
   | .nl (.slice none 0 0)=>match Gb res y with
     |some (q,esz,l)=>match C.P.underlying t with
      |some (.slice e)=>match C.Z e,C.P.info? e with
       |some z,some inf=>if t==t'&&esz==bP z&&Nat.blt 0 (bP z)then some (Ff q (Jv l.len inf.bytes),.sa nid,[.arr (some e) esz l])else none
       |_,_=>none
      |_=>none
     |none=>none
   |_=>none
 |_,_=>none
def Env.cz(J:Env)(i:Nat)(a:Option Addr)(n cap:Nat):Env:=
 {num:=J.num,cap:=fun j=>if j=i then cap else J.cap j,adr:=fun j=>if j=i then a.getD ⟨0,0,none⟩else J.adr j,sa:=fun j=>if j=i then a else J.sa j,sn:=fun j=>if j=i then n else J.sn j,ob:=J.ob}
theorem jF{N:Nat->Prop}(J:Env){i:Nat}{a:Option Addr}{n cap:Nat}(h:¬N i):Env.agree N J (J.cz i a n cap):=fun j hj=>by
 have e1:j≠i:=fun e=>h (e▸hj)
 simp[Env.cz,e1]
theorem oT{α:Type}{f:Nat->List α}{esz:Nat}:∀{n:Nat},(∀j,j<n->(f j).length=esz)->((List.range n).flatMap f).length=n*esz
 |0,_=>by simp
 |n+1,h=>by
  rw[List.range_succ,List.flatMap_append,List.length_append,oT fun j hj=>h j (by omega)]
  simp[h n (by omega),Nat.succ_mul]
theorem Cf{C:Ctx}{res:List aI}{nid:Nat}{ts:List Nat}{xs:List V}{r:V}{q:Option Prop}{new:List aI}(h:Dm C res nid ts xs=some (q,r,new)):r= .sa nid/\∃o e l,new= [.arr o e l]:=by
 unfold Dm at h;split at h
 ·split at h
  ·split at h
   ·grind
   ·simp at h
  ·simp at h
 ·simp at h
theorem A3{C:Ctx}{J:Env}{fps:Nat->Nat->Prop}{res:List aI}{K:Nat->Prop}{w0 w:World}{F0:Nat->Prop}{nid ty:Nat}{ts:List Nat}{xs:List V}{r:V}{q:Option Prop}{new:List aI}(hC:C.vo)
  (hH:aQ J fps res K w0 F0 w) (h:Dm C res nid ts xs=some (q,r,new)) (hq:bq q) (hn:¬K nid):
  ∃w' ρ',(Builtin.append_ ts.toArray ty (aV J xs).toArray).run C.P w= .ok (den ρ' r) w'/\fJ K J ρ' nid new w0 F0 w w':=by
 unfold Dm at h;split at h
 case h_2=>simp at h
 rename_i t t' x y;split at h
 case h_2=>simp at h
 split at h
 case h_2=>simp at h
 rename_i q' esz l hr;split at h
 case h_2=>simp at h
 rename_i e ht;split at h
 case h_2=>simp at h
 rename_i z inf hZ hi;split at h
 case isFalse=>simp at h
 rename_i hc;simp only[ah,aj,Nat.blt_eq]at hc;obtain⟨⟨rfl,rfl⟩,hsz⟩:=hc;simp only[aa,ae]at h;obtain⟨rfl,rfl,rfl⟩:=h;obtain⟨q0,q1,q2⟩:=vu.1 hq;obtain⟨i',g1,g2,g3,g4,g5⟩:=hC e z hZ;have:inf=i':=by rw[hi]at g1;exact Option.some.inj g1
 subst this;have hzs:(den Env.zero z).cells.size=bP z:=by rw[<-aO Env.zero z g3];simp[cells]
 obtain⟨a1,a3,ao,cap,hd,hsome,hcell⟩:=vC hH hr q0;have hlen:∀i,i<l.len->(cells Env.zero (l.get i)).length=bP z:=fun i hi=>by rw[aO Env.zero _ (a1 i hi).1];exact(a1 i hi).2.2
 have hxl:l.cells.length=l.len*bP z:=oT hlen
 have hone:∀u∈l.cells,u.oneCell'=true:=fun u hu=>by
  grind[TL.cells,c9,Env.zero]
 have main:∃ao cap w',(Builtin.append_ #[t,t] ty #[.slice none 0 0,den J y]).run C.P w= .ok (.slice ao l.len cap) w'/\w'.ownsRow w.heap.size e (bP z) (.slice ao l.len cap) l.len l.cells/\w.grownBy w' none:=by
  rw[hd];cases hs:ao with
  |none=>
   have h0:l.len=0:=by
    rcases Nat.eq_zero_or_pos l.len with h|h
    ·exact h
    ·have:=hsome h;rw[hs]at this;simp at this
   have hxs:l.cells= []:=List.length_eq_zero_iff.1 (by rw[hxl,h0];simp)
   refine⟨none,0,w,?_,by rw[h0,hxs];exact World.ownsRow_nil w _ e _,⟨rfl,rfl,rfl,Nat.le_refl _,fun _ _ _=>rfl⟩⟩
   simp[Builtin.append_,h0,aT w ht,Builtin.lenOf,Builtin.firstCells,sizeOf,typeInfo,hi]
  |some a=>
   by_cases h0:0<l.len
   ·obtain⟨v',w',r1,r2,r3,_⟩:=run_append_own (P:=C.P) w w.heap.size t ty e inf (den Env.zero z) (bP z) inf.bytes ht hi (g2 Env.zero) g5 rfl hzs hsz (.slice none 0 0) 0 [] (World.ownsRow_nil w _ e _)
     a l.len cap l.cells hxl (hcell a hs) hone (by simpa using q1) (by simpa using q2) (Nat.le_refl _)
    simp only[Nat.zero_add,List.nil_append]at r2;rcases r2.2 with⟨_,hz0⟩|⟨g,cap,cur,hv,_⟩
    ·omega
    ·subst hv;exact⟨_,_,w',r1,r2,r3⟩
   ·have h0:l.len=0:=by omega
    have hxs:l.cells= []:=List.length_eq_zero_iff.1 (by rw[hxl,h0];simp)
    obtain⟨v',w',r1,r2,r3,r4⟩:=run_append_own (P:=C.P) w w.heap.size t ty e inf (den Env.zero z) (bP z) inf.bytes ht hi (g2 Env.zero) g5 rfl hzs hsz (.slice none 0 0) 0 [] (World.ownsRow_nil w _ e _)
     a 0 cap [] (by simp) (fun k u hu=>by simp at hu) (by simp) (by simp) (by simp) (Nat.le_refl _)
    have hv:=r4.2 ⟨rfl,rfl⟩;subst hv;rw[h0,hxs];exact⟨none,0,w',r1,World.ownsRow_nil w' _ e _,r3⟩
 obtain⟨ao,cap,w',r1,r2,r3⟩:=main
 have hao:∀a,ao=some a->w.heap.size<=a.block/\a.block<w'.heap.size/\a.spot=none:=fun a ha=>by
  subst ha;have:=r2.lt a.block rfl;refine⟨this.1,this.2,?_⟩;rcases r2.2 with⟨hh,_⟩|⟨g,cap',cur,hh,_⟩
  ·simp at hh
  ·simp_all
 refine⟨w',J.cz nid ao l.len cap,?_,?_⟩
 ·simp_all[aV,den,Env.sl,Env.cz]
 ·refine⟨(Below.refl _ _).grown r3 (Nat.le_refl _) (fun k hk=>by simp at hk),jF J (fun hf=>hf ⟨Nat.le_refl _,by simp⟩),fun _ b=>∃a,ao=some a/\b=a.block,fun k hk=>?_,fun k m b hk hl hne=>?_⟩
  ·simp only[List.length_singleton,Nat.lt_one_iff]at hk;subst hk;refine⟨⟨a1,by simp[Env.cz],a3,fun a ha=>by simp[Env.cz]at ha⊢;simp[ha],fun hl=>?_,fun hl=>?_,.inr ⟨e,fun e' he=>by simpa using he.symm,?_,fun a ha=>by simp[Env.cz]at ha;exact⟨a,ha,rfl⟩⟩⟩,fun b hb=>?_⟩
   ·rcases r2.2 with⟨_,hz0⟩|⟨g,cap',cur,hh,_⟩
    ·omega
    ·simp only[Value.slice.injEq]at hh;simp[Env.cz,hh.1]
   ·rcases r2.2 with⟨_,hz0⟩|⟨g,cap',cur,hh,_⟩
    ·omega
    ·simp only[Value.slice.injEq]at hh;simp[Env.cz,hh.1]
   ·have:(J.cz nid ao l.len cap).sl (nid+0)= .slice ao l.len cap:=by simp[Env.sl,Env.cz]
    rw[this];exact⟨r2.1,r2.2.imp id fun⟨g,cp,cu,b1,b2,b3⟩=>⟨g,cp,cu,b1,Nat.zero_le _,b3⟩⟩
   ·grind
  ·simp_all
end Go.Sx
namespace Go.Sx
open Go.RowKit (Below)
def sat(s:ByteArray)(i:Nat):UInt8:=s.data.getD i 0
def Iy(b:Bytes)(lo hi:Nat):ByteArray:=⟨b.toArray.extract lo hi⟩
def Dn(b:Bytes)(lo n:Nat)(s:ByteArray):Bytes:=Vector.ofFn fun(i:Fin 64)=>if lo<=i.1/\i.1<lo+n then sat s (i.1-lo)else b.at i.1
def JI(s:ByteArray)(lo hi:Nat):ByteArray:=s.extract lo hi
def uG(a b:ByteArray):ByteArray:=a++b
def Bu(s:ByteArray)(lo hi:Nat):Nat:=Nat.min s.size (hi-lo)
def Mi(b:Bytes)(lo hi:Nat)(s:ByteArray):Bytes:=Dn b lo (Bu s lo hi) s
def Lh(b:Bytes)(lo hi:Nat):Bytes:=Dn b lo (hi-lo) ByteArray.empty
def A5(l:List Int):ByteArray:=⟨(l.map fun i=>UInt8.ofNat i.toNat).toArray⟩
def G9(lo hi n:Int):Prop:=0<=lo/\lo<=hi/\hi<=n
def LX(s:ByteArray)(j:Int):Prop:=0<=j/\j<(s.size:Int)
def jC(a b:ByteArray):Prop:=(a.size:Int)+(b.size:Int)<=9223372036854775807
theorem Fx(b:Bytes)(lo n:Nat)(s:ByteArray)(i:Nat)(h:i<64):(Dn b lo n s).at i=if lo<=i/\i<lo+n then sat s (i-lo)else b.at i:=by
 unfold Dn;rw[show∀v:Bytes,v.at i=v.toArray.getD i 0 from fun _=>rfl]
 simp only[Vector.toArray_ofFn,Array.getD_eq_getD_getElem?];rw[Array.getElem?_eq_getElem (by simpa using h)]
 simp[Array.getElem_ofFn]
theorem sat_empty(k:Nat):sat ByteArray.empty k=0:=by
 rfl
def iD(o:Option V)(d:Int):Option Int:=
 match o with
 |none=>some d
 |some v=>match toInt v with
  |some (_,j)=>some j
  |none=>none
def Bt:V->Bool
 | .lp _ _=>true
 | .ap _ _ _ _=>true
 |_=>false
def J0(o:Option V):Bool:=
 match o with
 |none=>true
 |some v=>oG v
def K7(P:Program)(t:Nat)(x:V)(lo hi:Option V):Option (Option Prop×V):=
 match P.underlying t with
 |some .string=>match x with
  | .st s=>match iD lo 0,iD hi (JA s)with
    |some a,some b=>some (some (G9 a b (JA s)),.st (JI s (gX a) (gX b)))
    |_,_=>none
  |_=>none
 |some (.array n e)=>if n==64&&Bt x&&iz P e==some 1 then match iD lo 0,iD hi 64 with
  |some a,some b=>some (some (G9 a b 64),.bs x (gX a) (gX b))
  |_,_=>none
  else if Bt x&&J0 lo&&J0 hi then match iz P e with
   |some z=>match iD lo 0,iD hi (n:Int)with
    |some a,some b=>if decide (0<=a)&&decide (a<=b)&&decide (b<=(n:Int))then some (none,.ks x z n a.toNat b.toNat)else none
    |_,_=>none
   |none=>none
  else none
 |_=>none
def L2(P:Program)(res:List aI)(t:Nat)(x:V)(lo hi:Option V):Option (Option Prop×V):=
 match P.underlying t with
 |some (.slice e)=>match iz P e with
  |some z=>match x with
   | .sa j=>match bD res j with
     | .arr own esz l=>match own with
       |some _=>if esz==z then match iD lo 0,iD hi (cW l.len)with
        |some a,some b=>some (some (G9 a b (cW l.len)),.vw j esz (gX a) (gX b))
        |_,_=>none
        else none
       |none=>none
     |_=>none
   |_=>none
  |none=>none
 |_=>none
def GQ(P:Program)(res:List aI)(t:Nat)(x:V)(lo hi:Option V):Option (Option Prop×V):=
 match K7 P t x lo hi with
 |some r=>some r
 |none=>L2 P res t x lo hi
section
variable {C:Ctx} {J:Env} {fps:Nat->Nat->Prop} {res:List aI} {K:Nat->Prop} {w0 w:World} {F0:Nat->Prop}
theorem mW{P:Program}{s:Bool}{n:Nat}{lo hi:Option V}{a b:Int}(ha:iD lo 0=some a)(hb:iD hi (n:Int)=some b)(hk:(∀v,lo=some v->ok K v)/\∀v,hi=some v->ok K v)(hp:G9 a b n):
  (Instr.sliceBounds s n n (lo.map (den J)) (hi.map (den J)) none).run P w= .ok (a.toNat,b.toNat,n) w:=by
 obtain⟨h0,h1,h2⟩:=hp
 have hlo:∀(c:BoundsCode) (y:Nat),a<=y->∀v,lo=some v->(Instr.sliceBound (den J v) y c).run P w= .ok a.toNat w:=fun c y hy v hv=>by
  subst hv;unfold iD at ha;cases ht:toInt v with
  |none=>simp[ht]at ha
  |some kj=>
   obtain⟨k,j⟩:=kj;simp only[ht,aa]at ha;subst ha;rw[(bB (J:=J) ht (hk.1 v rfl)).1];simp[Instr.sliceBound,asIntOf,h0,hy]
 have hhi:∀(c:BoundsCode),∀v,hi=some v->(Instr.sliceBound (den J v) n c).run P w= .ok b.toNat w:=fun c v hv=>by
  subst hv;unfold iD at hb;cases ht:toInt v with
  |none=>simp[ht]at hb
  |some kj=>
   obtain⟨k,j⟩:=kj;simp only[ht,aa]at hb;subst hb;rw[(bB (J:=J) ht (hk.2 v rfl)).1];simp[Instr.sliceBound,asIntOf,show 0<=j by omega,h2]
 unfold Instr.sliceBounds;cases hhe:hi with
 |none=>
  subst hhe;have hb':b=n:=by simpa[iD]using hb.symm
  subst hb';cases hle:lo with
  |none=>subst hle;have:a=0:=by simpa[iD]using ha.symm
         subst this;simp
  |some v=>simp[hlo _ n (by omega) v hle]
 |some u=>
  have e:=hhi (if s then .sliceAcap else .sliceAlen) u hhe
  cases hle:lo with
  |none=>subst hle;have:a=0:=by simpa[iD]using ha.symm
         subst this;simp[e]
  |some v=>simp[e,hlo .sliceB b.toNat (by omega) v hle]
theorem nW{x:V}(h:Bt x=true):∃b o,den J x= .pointer (some ⟨b,o,none⟩):=by
 cases x<;>simp[Bt]at h
 ·exact⟨_,_,rfl⟩
 ·exact⟨_,_,rfl⟩
theorem Cz{P:Program}{t:Nat}{x r:V}{lo hi:Option V}{q:Option Prop}(h:K7 P t x lo hi=some (q,r))(hq:bq q)(hx:ok K x)(hl:∀v,lo=some v->ok K v)(hh:∀v,hi=some v->ok K v):
  (Instr.sliceAt t (den J x) (lo.map (den J)) (hi.map (den J)) none).run P w= .ok (den J r) w/\ok K r:=by
 unfold K7 at h;split at h
 ·rename_i hu;split at h
  ·rename_i s;split at h
   ·rename_i a b ha hb;simp only[aa,ae]at h;obtain⟨rfl,rfl⟩:=h;have hb':=mW (J:=J) (K:=K) (w:=w) (P:=P) (s:=false) (n:=s.size) ha hb ⟨hl,hh⟩ hq;refine⟨?_,trivial⟩;simp only[Instr.sliceAt,Instr.slice,Sem.run_bind,aT w hu,Result.andThen_ok,den,Option.isSome_none,Bool.false_eq_true,if_false];simp[hb',JI,gX]
   ·simp at h
  ·simp at h
 ·rename_i n e hu;split at h
  ·rename_i hc;simp only[ah,aj]at hc;obtain⟨⟨rfl,hp⟩,hs⟩:=hc;split at h
   ·rename_i a b ha hb;simp only[aa,ae]at h;obtain⟨rfl,rfl⟩:=h;have hb':=mW (J:=J) (K:=K) (w:=w) (P:=P) (s:=false) (n:=64) ha hb ⟨hl,hh⟩ hq;obtain⟨g,o,hd⟩:=nW (J:=J) hp;obtain⟨q1,q2,q3⟩:=(show G9 a b 64 from hq);refine⟨?_,hx,by unfold gX;omega,by unfold gX;omega⟩
    simp only[Instr.sliceAt,Sem.run_bind,aT w hu,Result.andThen_ok,den,hd,Instr.sureAddr,Sem.run_pure,hb',cE w hs,pS,Nat.mul_one];by_cases e:a.toNat=64
    ·rw[au e.symm,au (show gX a=64 from e)];rfl
    ·rw[ar (Ne.symm e),ar (show¬gX a=64 from e)];rfl
   ·simp at h
  ·split at h
   case isFalse=>simp at h
   rename_i hc;simp only[ah]at hc;split at h
   case h_2=>simp at h
   rename_i z hs;split at h
   case h_2=>simp at h
   rename_i a b ha hb;split at h<;>simp only[aa,ae,reduceCtorEq]at h
   rename_i hd;simp only[ah,ai]at hd;obtain⟨⟨q1,q2⟩,q3⟩:=hd;obtain⟨_,rfl⟩:=h;have hb':=mW (J:=J) (K:=K) (w:=w) (P:=P) (s:=false) (n:=n) ha hb ⟨hl,hh⟩ ⟨q1,q2,q3⟩;obtain⟨g,o,hd⟩:=nW (J:=J) hc.1.1;refine⟨?_,hx,by omega,by omega⟩
   simp only[Instr.sliceAt,Sem.run_bind,aT w hu,Result.andThen_ok,den,hd,Instr.sureAddr,Sem.run_pure,hb',cE w hs,pC];by_cases e:a.toNat=n
   ·rw[au e.symm,au e]
   ·rw[ar (Ne.symm e),ar e]
 ·simp at h
theorem wG{P:Program}{n cap:Nat}{lo hi:Option V}{a b:Int}(ha:iD lo 0=some a)(hb:iD hi (n:Int)=some b)(hk:(∀v,lo=some v->ok K v)/\∀v,hi=some v->ok K v)(hp:G9 a b n)(hn:n<=cap):
  (Instr.sliceBounds true n cap (lo.map (den J)) (hi.map (den J)) none).run P w= .ok (a.toNat,b.toNat,cap) w:=by
 obtain⟨h0,h1,h2⟩:=hp
 have hlo:∀(c:BoundsCode) (y:Nat),a<=y->∀v,lo=some v->(Instr.sliceBound (den J v) y c).run P w= .ok a.toNat w:=fun c y hy v hv=>by
  subst hv;unfold iD at ha;cases ht:toInt v with
  |none=>simp[ht]at ha
  |some kj=>
   obtain⟨k,j⟩:=kj;simp only[ht,aa]at ha;subst ha;rw[(bB (J:=J) ht (hk.1 v rfl)).1];simp[Instr.sliceBound,asIntOf,h0,hy]
 have hhi:∀(c:BoundsCode),∀v,hi=some v->(Instr.sliceBound (den J v) cap c).run P w= .ok b.toNat w:=fun c v hv=>by
  subst hv;unfold iD at hb;cases ht:toInt v with
  |none=>simp[ht]at hb
  |some kj=>
   obtain⟨k,j⟩:=kj;simp only[ht,aa]at hb;subst hb;rw[(bB (J:=J) ht (hk.2 v rfl)).1];simp[Instr.sliceBound,asIntOf,show 0<=j by omega,show j<=(cap:Int) by omega]
 unfold Instr.sliceBounds;cases hhe:hi with
 |none=>
  subst hhe;have hb':b=n:=by simpa[iD]using hb.symm
  subst hb';cases hle:lo with
  |none=>subst hle;have:a=0:=by simpa[iD]using ha.symm
         subst this;simp
  |some v=>simp[hlo _ n (by omega) v hle]
 |some u=>
  have e:=hhi .sliceAcap u hhe;cases hle:lo with
  |none=>subst hle;have:a=0:=by simpa[iD]using ha.symm
         subst this;simp[e]
  |some v=>simp[e,hlo .sliceB b.toNat (by omega) v hle]
theorem Ej{P:Program}{t:Nat}{x r:V}{lo hi:Option V}{q:Option Prop}(hH:aQ J fps res K w0 F0 w)(h:GQ P res t x lo hi=some (q,r))(hq:bq q)(hx:ok K x)(hl:∀v,lo=some v->ok K v)(hh:∀v,hi=some v->ok K v):
  (Instr.sliceAt t (den J x) (lo.map (den J)) (hi.map (den J)) none).run P w= .ok (den J r) w/\ok K r:=by
 unfold GQ at h;split at h
 ·rename_i r' hr;simp only[aa]at h;subst h;exact Cz hr hq hx hl hh
 rename_i hno;clear hno;unfold L2 at h;split at h
 case h_2=>simp at h
 rename_i e hu;split at h
 case h_2=>simp at h
 rename_i z hz;split at h
 case h_2=>simp at h
 rename_i j;split at h
 case h_2=>simp at h
 rename_i own esz l hr;split at h
 case h_2=>simp at h
 rename_i e';split at h
 case isFalse=>simp at h
 rename_i he;have he:=aj.1 he;subst he;split at h
 case h_2=>simp at h
 rename_i a b ha hb;simp only[aa,ae]at h;obtain⟨rfl,rfl⟩:=h;obtain⟨fp,hh',_⟩:=hH.look hr (by simp)
 obtain⟨a1,a2,a3,a4,a5,a6,a7⟩:=hh';rcases a7 with⟨b1,_⟩|⟨e2,b1,b2,b3⟩
 ·simp at b1
 have hq:G9 a b l.len:=hq
 have hcap:l.len<=J.cap j:=by
  rcases b2.2 with⟨_,hz0⟩|⟨g,cap,cur,hv,_,_,hn,_⟩
  ·omega
  ·simp only[Env.sl,Value.slice.injEq]at hv;rw[hv.2.2];exact hn
 have hbd:=wG (J:=J) (K:=K) (w:=w) (P:=P) ha hb ⟨hl,hh⟩ hq hcap;refine⟨?_,hx⟩;simp only[Instr.sliceAt,Instr.slice,Sem.run_bind,aT w hu,Result.andThen_ok,den,a2,hbd,cE w hz,Sem.run_pure,wb];rfl
def yH(res:List aI)(p:V):Option (Option Prop×Bytes):=
 match p with
 | .lp id off=>match bD res id with
   | .blk _ c=>match cS 8 c off 64 true with
     |some r=>match r with
      | .by b=>some (none,b)
      |_=>none
     |none=>none
   |_=>none
 | .ap id esz i off=>match bD res id with
   | .arr _ esz' l=>if esz==esz' then match cS 8 (l.get i) off 64 true with
     |some r=>match r with
      | .by b=>some (some (AX i l.len),b)
      |_=>none
     |none=>none
     else none
   |_=>none
 |_=>none
theorem wu{p:V}{q:Option Prop}{b:Bytes}(h:aQ J fps res K w0 F0 w)(hb:yH res p=some (q,b))(hq:bq q):
  ∃g o,den J p= .pointer (some ⟨g,o,none⟩)/\∀k,k<64->w.cell? ⟨g,o+k,none⟩=(bF b)[k]? :=by
 unfold yH at hb;split at hb
 ·rename_i id off;split at hb
  ·rename_i ty c hc;split at hb
   ·rename_i r hg;split at hb<;>simp only[aa,ae,reduceCtorEq]at hb
    rename_i b';obtain⟨_,rfl⟩:=hb;obtain⟨fp,hh,_⟩:=h.look hc (by simp)
    obtain⟨h1,h2,h3,h4⟩:=hh;obtain⟨⟨P,Q,e1,rfl⟩,_⟩:=bO J 8 c off 64 true _ h1 h2 hg;refine⟨_,_,rfl,fun k hk=>?_⟩
    rw[cell_of_row w _ _ _ _ _ h4];rw[e9]at e1;simp only[List.getElem?_toArray,e1];exact dX P _ Q k (by rw[cg];exact hk)
   ·simp at hb
  ·simp at hb
 ·rename_i id esz i off;split at hb
  ·rename_i own esz' l hc;split at hb
   ·rename_i he;have he:=aj.1 he;subst he;split at hb
    ·rename_i r hg;split at hb<;>simp only[aa,ae,reduceCtorEq]at hb
     rename_i b';obtain⟨rfl,rfl⟩:=hb;obtain⟨g1,g2,g3,g4⟩:=fO h hc hq;obtain⟨⟨P,Q,e1,e2⟩,_⟩:=bO J 8 _ off 64 true _ g1 g2 hg;have hlg:=aO J _ g1;rw[e9]at e1;refine⟨_,_,rfl,fun k hk=>?_⟩
     have hk2:off+k<esz:=by
      rw[<-g3,<-hlg,e1];simp[cg];omega
     rw[show(J.adr id).off+(i*esz+off)+k=(J.adr id).off+(i*esz+(off+k)) by omega,g4 _ hk2,e1,e2]
     exact dX P _ Q k (by rw[cg];exact hk)
    ·simp at hb
   ·simp at hb
  ·simp at hb
 ·simp at hb
theorem rk:∀(l:List Int) (s:ByteArray),(l.foldl (fun r n=>r.push (UInt8.ofNat n.toNat)) s).data=s.data++(l.map fun i=>UInt8.ofNat i.toNat).toArray
 | [],s=>by simp
 |x::l,s=>by
  rw[List.foldl_cons,rk l];simp[ByteArray.push]
theorem tM(l:List Int):l.foldl (fun r n=>r.push (UInt8.ofNat n.toNat)) ByteArray.empty=A5 l:=by
 apply ByteArray.ext
 rw[rk];simp[A5]
def KO(P:Program)(res:List aI)(s d:Nat)(x:V):Option (Option Prop×V):=
 match P.underlying s,P.underlying d with
 |some (.slice e),some .string=>match P.underlying e with
  |some (.int k)=>if k== .u8 then match x with
   | .bs p lo hi=>match yH res p with
     |some r=>some (r.1,.st (Iy r.2 lo hi))
     |none=>none
   | .sa id=>match bD res id with
     | .arr _ esz l=>match l with
       | .it k' m=>if esz==1&&k'== .u8 then some (none,.st (A5 m))else none
       |_=>none
     |_=>none
   |_=>none
   else none
  |_=>none
 |_,_=>none
theorem BV(b:Bytes)(lo hi:Nat)(h:hi<=64):A5 ((List.range (hi-lo)).map fun k=>((b.at (lo+k)).toNat:Int))=Iy b lo hi:=by
 apply ByteArray.ext
 unfold A5 Iy;apply Array.ext
 ·simp;omega
 ·intro i h1 h2;simp at h1;have:lo+i<64:=by omega
  simp[Bytes.at,Array.getD_eq_getD_getElem?,Array.getElem?_eq_getElem,this]
theorem B7{P:Program}{s d:Nat}{x r:V}{q:Option Prop}(h:aQ J fps res K w0 F0 w)(hl:KO P res s d x=some (q,r))(hq:bq q)(hx:ok K x):
  (convert s d (den J x)).run P w= .ok (den J r) w/\ok K r:=by
 unfold KO at hl;split at hl
 case h_2=>simp at hl
 rename_i e hs hd;split at hl
 case h_2=>simp at hl
 rename_i k he;split at hl
 case isFalse=>simp at hl
 rename_i hk;have hk:=aj.1 hk;subst hk;split at hl
 ·rename_i p lo hi;split at hl
  case h_2=>simp at hl
  rename_i qb hb;obtain⟨q',b⟩:=qb;simp only[aa,ae]at hl;obtain⟨rfl,rfl⟩:=hl;obtain⟨g,o,hg,hc⟩:=wu h hb hq;obtain⟨_,h1,h2⟩:=hx;refine⟨?_,trivial⟩;simp only[den,hg,pS];rw[run_convert_bytes_string w s d e _ _ _ hs he hd]
  have hload:(loadCells (if lo=64 then(⟨g,o,none⟩:Addr)else(⟨g,o,none⟩:Addr).add lo) (hi-lo)).run P w= .ok ((((List.range (hi-lo)).map fun k=>((b.at (lo+k)).toNat:Int)).map (Value.int .u8)).toArray) w:=by
   have:=run_loadCells_list (P:=P) w (if lo=64 then(⟨g,o,none⟩:Addr)else(⟨g,o,none⟩:Addr).add lo) (((List.range (hi-lo)).map fun k=>((b.at (lo+k)).toNat:Int)).map (Value.int .u8)) (fun j v hv=>by
    have hj:j<hi-lo:=by have:=(List.getElem?_eq_some_iff.1 hv).1;simpa using this
    rw[ar (by omega),add_lit,add_lit,Nat.add_assoc,hc _ (by omega),<-hv]
    simp[bF,hj,show lo+j<64 by omega])
   simpa using this
  rw[run_bytesToString w _ _ _ _ hload,tM,BV b lo hi h2]
 ·rename_i id;split at hl
  case h_2=>simp at hl
  rename_i own esz l hr;split at hl
  case h_2=>simp at hl
  rename_i k' m;split at hl
  case isFalse=>simp at hl
  rename_i hc;simp only[ah,aj]at hc;obtain⟨rfl,rfl⟩:=hc;simp only[aa,ae]at hl;obtain⟨_,rfl⟩:=hl;refine⟨?_,trivial⟩;obtain⟨fp,hh,_⟩:=h.look hr (by simp)
  obtain⟨a1,a2,a3,a4,a5,a6,_⟩:=hh;have hlen:(TL.it .u8 m).len=m.length:=rfl;rw[hlen]at a2 a5 a6;simp only[den];rw[run_convert_bytes_string w s d e _ _ _ hs he hd];cases hsa:J.sa id with
  |none=>
   have:m= []:=by
    simp_all
   subst this;simp[Conv.bytesToString,A5,ByteArray.empty,ByteArray.emptyWithCapacity];rfl
  |some a=>
   have ha:=a4 a hsa;subst ha
   have hload:(loadCells (J.adr id) (J.sn id)).run P w= .ok ((m.map (Value.int .u8)).toArray) w:=by
    have:=run_loadCells_list (P:=P) w (J.adr id) (m.map (Value.int .u8)) (fun j v hv=>by
     have hj:j<m.length:=by have:=(List.getElem?_eq_some_iff.1 hv).1;simpa using this
     have hsp:=a6 (by omega)
     obtain⟨_,_,_,g4⟩:=fO h hr (i:=j) hj;have g:=g4 0 (by omega)
     have:(J.adr id).add j=⟨(J.adr id).block,(J.adr id).off+j,none⟩:=by
      cases had:J.adr id with
      |mk bb oo ss=>rw[had]at hsp;simp only at hsp;subst hsp;rw[add_lit]
     rw[this,<-hv];simp only[Nat.mul_one,Nat.add_zero]at g;rw[g];simp[TL.get,cells,den,Value.cells,aX,hj])
    simpa[a2]using this
   rw[run_bytesToString w _ _ _ _ hload,tM]
 ·simp at hl
theorem ur{P:Program}{id ty off lo n:Nat}{c c':V}{b b':Bytes}{xs:List Value}(h:aQ J fps res K w0 F0 w)(hr:aH res id= .blk ty c)(hg:cS 8 c off 64 true=some (.by b))(hs:setAt 8 c off (.by b')=some c')
  (hlo:lo+n<=64) (hx:xs.length=n) (hb:bF b'=(bF b).take lo++xs++(bF b).drop (lo+n)) (h1:∀v∈xs,v.oneCell'=true):
  ∃w',(storeCells ⟨J.num id,off+lo,none⟩ xs).run P w= .ok () w'/\aQ J fps (bd res id (.blk ty c')) K w0 F0 w'/\∀i,known (bd res id (.blk ty c')) i↔known res i:=by
 have hk:known res id:=by unfold known;rw[hr];simp
 have hh:=h.holds id hk;rw[hr]at hh;obtain⟨k1,k2,k3,k4⟩:=hh;obtain⟨⟨p,q,e1,e2⟩,_⟩:=bO J 8 c off 64 true _ k1 k2 hg;obtain⟨⟨p',m,q',f1,f2,f3,f4⟩,_,f6,f7⟩:=dF J (.by b') (N:=K) trivial rfl 8 c off c' k1 k2 hs
 rw[e9]at e1 f2;have hbl:=cg b;obtain⟨rfl,rfl,rfl⟩:=fB (f1.symm.trans e1) (by omega) (by rw[f4,hbl];rfl)
 have hcl:(cells J c).length=p'.length+64+q'.length:=by rw[e1];simp[hbl];omega
 have hst:=run_storeCells_at (P:=P) (J.num id) (off+lo) ty xs 0 (cells J c).toArray w k4 (by simp only[List.size_toArray];omega) h1
 have hrow:(cells J c).take (off+lo)++xs++(cells J c).drop (off+lo+xs.length)=cells J c':=by
  rw[f2,hb,e1,<-f3,hx]
  have t1:(p'++bF b++q').take (p'.length+lo)=p'++(bF b).take lo:=by
   rw[List.append_assoc,List.take_append,List.take_of_length_le (by omega)]
   rw[show p'.length+lo-p'.length=lo by omega,List.take_append_of_le_length (by omega)]
  have t2:(p'++bF b++q').drop (p'.length+lo+n)=(bF b).drop (lo+n)++q':=by
   rw[List.append_assoc,List.drop_append,List.drop_of_length_le (by omega)]
   rw[show p'.length+lo+n-p'.length=lo+n by omega,List.drop_append_of_le_length (by omega)]
   rfl
  rw[t1,t2];simp
 refine⟨w.setRow (J.num id) (cells J c').toArray,?_,?_,fun i=>?_⟩
 ·simp only[Nat.add_zero]at hst;rw[hst,hrow]
 ·exact h.write hr f6 f7 rfl rfl rfl (by simp[World.setRow]) (setRow_heap w _ _ _ _ (0,0) k4) fun b hb=>setRow_other w _ _ b hb
 ·grind[known,aY,aK]
theorem pB(b:Bytes)(lo n:Nat)(s:ByteArray)(h:lo+n<=64):bF (Dn b lo n s)=(bF b).take lo++(List.range n).map (fun k=>Value.int .u8 ((sat s k).toNat:Int))++(bF b).drop (lo+n):=by
 apply List.ext_getElem?
 intro i;have hbl:=cg b;by_cases hi:i<64
 ·have hl:∀b:Bytes,(bF b)[i]? =some (.int .u8 ((b.at i).toNat:Int)):=fun b=>by simp[bF,hi]
  rw[hl,Fx _ _ _ _ _ hi,List.append_assoc];by_cases h1:i<lo
  ·grind
  ·grind
 ·grind[cg]
def Ll(C:Ctx)(res:List aI)(ts:List Nat)(xs:List V):Option (V×List aI):=
 match ts,xs with
 | [t,_],[d,s]=>match C.P.underlying t with
   |some (.slice e)=>if iz C.P e==some 1 then match d with
    | .bs p lo hi=>match p with
      | .lp id off=>match s with
        | .st z=>match aH res id with
          | .blk ty c=>match cS 8 c off 64 true with
            |some r=>match r with
             | .by b=>match setAt 8 c off (.by (Mi b lo hi z))with
               |some c'=>some (.it .i64 (cW (Bu z lo hi)),bd res id (.blk ty c'))
               |none=>none
             |_=>none
            |none=>none
          |_=>none
        |_=>none
      |_=>none
    |_=>none
    else none
   |_=>none
 |_,_=>none
theorem Dd{ts:List Nat}{xs:List V}{ty:Nat}{r:V}{res':List aI}(h:aQ J fps res K w0 F0 w)(hl:Ll C res ts xs=some (r,res'))(hx:cm K xs):
  ∃w',(Builtin.copy_ ts.toArray ty (aV J xs).toArray).run C.P w= .ok (den J r) w'/\aQ J fps res' K w0 F0 w'/\(∀i,known res' i↔known res i)/\ok K r:=by
 unfold Ll at hl;split at hl
 case h_2=>simp at hl
 rename_i t t' d s;split at hl
 case h_2=>simp at hl
 rename_i e ht;split at hl
 case isFalse=>simp at hl
 rename_i hs;have hs:=aj.1 hs;split at hl
 case h_2=>simp at hl
 rename_i p lo hi;split at hl
 case h_2=>simp at hl
 rename_i id off;split at hl
 case h_2=>simp at hl
 rename_i z;split at hl
 case h_2=>simp at hl
 rename_i ty' c hr;split at hl
 case h_2=>simp at hl
 rename_i rb hg;split at hl
 case h_2=>simp at hl
 rename_i b;split at hl
 case h_2=>simp at hl
 rename_i c' hset;simp only[aa,ae]at hl;obtain⟨rfl,rfl⟩:=hl;obtain⟨⟨_,h1,h2⟩,_⟩:=hx;have hn:Bu z lo hi<=hi-lo:=Nat.min_le_right _ _;have hnz:Bu z lo hi<=z.size:=Nat.min_le_left _ _
 obtain⟨w',e1,e2,e3⟩:=ur (P:=C.P) (n:=Bu z lo hi) (xs:=(List.range (Bu z lo hi)).map fun k=>Value.int .u8 ((sat z k).toNat:Int)) h hr hg hset (by omega) (by simp) (pB b lo _ z (by omega)) (fun v hv=>by
  simp only[List.mem_map]at hv;obtain⟨_,_,rfl⟩:=hv;rfl)
 refine⟨w',?_,e2,e3,by simp only[ok,bU,cW];omega⟩
 have hcells:((z.extract 0 (Bu z lo hi)).data.map fun b=>Value.int .u8 (b.toNat:Int)).toList=(List.range (Bu z lo hi)).map fun k=>Value.int .u8 ((sat z k).toNat:Int):=by
  apply List.ext_getElem?
  intro i;by_cases hi:i<Bu z lo hi
  ·have:i<z.data.size:=Nat.lt_of_lt_of_le hi hnz;simp[sat,hi,ByteArray.data_extract,Array.getElem?_extract,this,Array.getElem?_eq_getElem this]
  ·simp_all
 have hcells2:=congrArg List.toArray hcells;simp only[Array.toArray_toList]at hcells2;have hsz:C.P.info? e=none\/∃inf,C.P.info? e=some inf:=by cases C.P.info? e<;>simp
 have hdst:∀xs:List Value,xs=(List.range (Bu z lo hi)).map (fun k=>Value.int .u8 ((sat z k).toNat:Int))->(storeCells (if lo=64 then(⟨J.num id,off,none⟩:Addr)else(⟨J.num id,off,none⟩:Addr).add lo) xs).run C.P w= .ok () w':=fun xs hxs=>by
  subst hxs;by_cases e:lo=64
  ·have h0:Bu z lo hi=0:=by omega
   rw[h0]at e1⊢;simp only[List.range_zero,List.map_nil,storeCells]at e1⊢;exact e1
  ·rw[ar e,add_lit];exact e1
 simp only[aV,den,pS,Builtin.copy_,List.size_toArray,List.getElem?_toArray];simp only[List.getElem?_cons_zero,List.getElem?_cons_succ,Sem.run_bind,aT w ht,Result.andThen_ok,Builtin.lenOf,Sem.run_pure,cE w hs,Builtin.firstCells];rw[show Nat.min z.size (hi-lo)=Bu z lo hi from rfl,hcells2];simp only[Sem.run_bind,Result.andThen_ok,hdst _ rfl,Sem.run_pure,goInt,cW]
def HY(C:Ctx)(res:List aI)(ts:List Nat)(xs:List V):Option (List aI):=
 match ts,xs with
 | [t],[d]=>match C.P.underlying t with
   |some (.slice e)=>match C.Z e with
    |some z=>match toByte z with
     |some y=>if y==0 then match d with
      | .bs p lo hi=>match p with
        | .lp id off=>match aH res id with
          | .blk ty c=>match cS 8 c off 64 true with
            |some r=>match r with
             | .by b=>match setAt 8 c off (.by (Lh b lo hi))with
               |some c'=>some (bd res id (.blk ty c'))
               |none=>none
             |_=>none
            |none=>none
          |_=>none
        |_=>none
      |_=>none
      else none
     |none=>none
    |none=>none
   |_=>none
 |_,_=>none
theorem z7{ts:List Nat}{xs:List V}{ty:Nat}{res':List aI}(hC:C.vo)(h:aQ J fps res K w0 F0 w)(hl:HY C res ts xs=some res')(hx:cm K xs):
  ∃w',(Builtin.clear_ ts.toArray ty (aV J xs).toArray).run C.P w= .ok (.tuple #[]) w'/\aQ J fps res' K w0 F0 w'/\(∀i,known res' i↔known res i):=by
 unfold HY at hl;split at hl
 case h_2=>simp at hl
 rename_i t d;split at hl
 case h_2=>simp at hl
 rename_i e ht;split at hl
 case h_2=>simp at hl
 rename_i zv hz;split at hl
 case h_2=>simp at hl
 rename_i y hy;split at hl
 case isFalse=>simp at hl
 rename_i hy0;have hy0:=aj.1 hy0;subst hy0;split at hl
 case h_2=>simp at hl
 rename_i p lo hi;split at hl
 case h_2=>simp at hl
 rename_i id off;split at hl
 case h_2=>simp at hl
 rename_i ty' c hr;split at hl
 case h_2=>simp at hl
 rename_i rb hg;split at hl
 case h_2=>simp at hl
 rename_i b;split at hl
 case h_2=>simp at hl
 rename_i c' hset;simp only[aa]at hl;subst hl;obtain⟨⟨_,h1,h2⟩,_⟩:=hx
 obtain⟨w',e1,e2,e3⟩:=ur (P:=C.P) (n:=hi-lo) (xs:=(List.range (hi-lo)).map fun k=>Value.int .u8 ((sat ByteArray.empty k).toNat:Int)) h hr hg hset (by omega) (by simp) (pB b lo _ _ (by omega)) (fun v hv=>by
  simp only[List.mem_map]at hv;obtain⟨_,_,rfl⟩:=hv;rfl)
 refine⟨w',?_,e2,e3⟩;have hs0:=sat_empty;obtain⟨inf,g1,g2,g3,g4,g5⟩:=hC e zv hz
 have hzc:(den J zv).cells= #[.int .u8 0]:=by
  have:=(k9 J hy).1;simp only[cells]at this;apply Array.ext'
  simpa using this
 by_cases hz0:hi-lo=0
 ·rw[hz0]at e1;simp only[List.range_zero,List.map_nil,storeCells,Sem.run_pure,Result.ok.injEq,true_and]at e1;subst e1;simp[aV,den,pS,Builtin.clear_,aT w ht,hz0]
 ·have hz1:hi-lo=(hi-lo-1)+1:=by omega
  have hdst:(storeCells (if lo=64 then(⟨J.num id,off,none⟩:Addr)else(⟨J.num id,off,none⟩:Addr).add lo) (Builtin.zeroCells #[.int .u8 0] (hi-lo)).toList).run C.P w= .ok () w':=by
   rw[ar (by omega),add_lit,<-e1]
   congr 1
   congr 1
   unfold Builtin.zeroCells;apply List.ext_getElem?
   intro i;simp only[hs0];by_cases hi':i<hi-lo
   ·simp[hi',Nat.mod_one]
   ·simp[hi']
  rw[hz1]at hdst
  have hzero:(zeroValue e).run C.P w= .ok (den J zv) w:=by
   simp[zeroValue,typeInfo,g1,g2 J]
  simp only[aV,den,pS,Builtin.clear_,List.getElem?_toArray,List.getElem?_cons_zero,Sem.run_bind,aT w ht,Result.andThen_ok];rw[hz1];simp[hzero,hzc,hdst]
end
end Go.Sx
namespace Go.Sx
open Go.RowKit (Below)
def cU(D:List (List Int×Int))(k:List Int):Bool:=D.any fun p=>decide (p.1=k)
def bu(D:List (List Int×Int))(k:List Int):Nat:=D.findIdx fun p=>decide (p.1=k)
def bx(D:List (List Int×Int))(k:List Int):Int:=(aX D (bu D k) ([],0)).2
def bn(D:List (List Int×Int))(k:List Int):List (List Int×Int):=if cU D k=true then D else D++ [(k,0)]
def cD(D:List (List Int×Int))(j:Nat)(v:Int):List (List Int×Int):=D.set j ((aX D j ([],0)).1,v)
def cC(D:List (List Int×Int))(j c:Nat):Int:=aX (aX D j ([],0)).1 c 0
def sT(D:List (List Int×Int)):Prop:=D.length<=4611686018427387904
def Li(C:Ctx)(res:List aI)(t:Nat)(m x:V):Option (Option Prop×V×List aI):=
 match m with
 | .mp i=>match x with
   | .ag xl=>match fm xl with
     |some l=>match aH res i with
      | .ms n D=>match C.P.underlying t with
        |some (.map kt et)=>if kf C.P kt l.length&&l.length==n then match C.Z et with
         |some z=>match z with
          | .ci kd c=>if kd== .i64&&c==0 then some (some (sT D),.tp [.it .i64 (bx D (bj l)),.it .i64 (cW (bu D (bj l)))],bd res i (.ms n (bn D (bj l))))else none
          |_=>none
         |none=>none
         else none
        |_=>none
      |_=>none
     |none=>none
   |_=>none
 |_=>none
def La(res:List aI)(m s v:V):Option (Option Prop×List aI):=
 match m with
 | .mp i=>match toInt s with
   |some (ks,j)=>match toInt v with
    |some (kv,x)=>if ks== .i64&&kv== .i64 then match aH res i with
     | .ms n D=>some (some (GH j (aN D)),bd res i (.ms n (cD D (gX j) x)))
     |_=>none
     else none
    |none=>none
   |none=>none
 |_=>none
def CJ(C:Ctx)(res:List aI)(t:Nat)(m x:V)(two:Bool):Option V:=
 match m with
 | .mp i=>match x with
   | .ag xl=>match fm xl with
     |some l=>match bD res i with
      | .ms n D=>match C.P.underlying t with
        |some (.map kt et)=>if kf C.P kt l.length&&l.length==n then match C.Z et with
         |some z=>match z with
          | .ci kd c=>if kd== .i64&&c==0 then some (if two then .tp [.it .i64 (bx D (bj l)),.bo (cU D (bj l))]else .it .i64 (bx D (bj l)))else none
          |_=>none
         |none=>none
         else none
        |_=>none
      |_=>none
     |none=>none
   |_=>none
 |_=>none
def mY(D:List (List Int×Int))(q:Nat):Nat->Nat->List V
 |_,0=> []
 |c,m+1=> .it .i64 (cC D q c)::mY D q (c+1) m
def kb(D:List (List Int×Int))(q:Nat):Int:=(aX D q ([],0)).2
def nL(S:List Nat):Nat:=aX S (S.length-1) 0
def Eo(S:List Nat)(q:Nat):Bool:=S.contains q
def Ii(n:Nat)(D:List (List Int×Int))(S:List Nat):Prop:=n=aN D/\0<aN S/\nL S<aN D
def Kb(n:Nat)(D:List (List Int×Int)):Prop:=n=aN D
def Ki(C:Ctx)(res:List aI)(nid t:Nat)(m:V):RR:=
 match m with
 | .mp i=>match bD res i with
   | .ms _ D=>match C.P.underlying t with
     |some (.map _ _)=>some (none,.lp nid 0,[.mi i (aN D) []])
     |_=>none
   |_=>none
 |_=>none
def LK(res:List aI)(p:V):RR:=
 match p with
 | .lp j off=>if off==0 then match bD res j with
   | .mi i n S=>match bD res i with
     | .ms w D=>some (some (Ii n D S),.tp [.ag (mY D (nL S) 0 w),.it .i64 (kb D (nL S))],[])
     |_=>none
   |_=>none
   else none
 |_=>none
def Lt(res:List aI)(p:V)(k:V->List aI->Prop):Prop:=
 match p with
 | .lp j off=>if off==0 then match aH res j with
   | .mi i n S=>match bD res i with
     | .ms w D=>Kb n D/\(∀q,q<aN D->Eo S q=false->k (.tp [.cb true,.ag (mY D q 0 w),.it .i64 (kb D q)]) (bd res j (.mi i n (bN S q))))/\((∀q,q<aN D->Eo S q=true)->k (.tp [.cb false]) res)
     |_=>False
   |_=>False
   else False
 |_=>False
def K8(C:Ctx)(kt et nid:Nat):RR:=
 match C.Z et with
 |some z=>if oG z then(match iz C.P kt with|some n=>some (none,.mp nid,[.ms n []])|none=>none)else some (none,.mp nid,[.mq [] []])
 |none=>some (none,.mp nid,[.mq [] []])
theorem C3{C:Ctx}{kt et nid:Nat}{q:Option Prop}{x:V}{new:List aI}(h:K8 C kt et nid=some (q,x,new)):x= .mp nid/\(new= [.mq [] []]\/∃n,new= [.ms n []]):=by
 unfold K8 at h;split at h
 ·split at h
  ·split at h<;>simp only[aa,ae,reduceCtorEq]at h
   obtain⟨_,rfl,rfl⟩:=h;exact⟨rfl,.inr ⟨_,rfl⟩⟩
  ·simp only[aa,ae]at h;obtain⟨_,rfl,rfl⟩:=h;exact⟨rfl,.inl rfl⟩
 ·simp only[aa,ae]at h;obtain⟨_,rfl,rfl⟩:=h;exact⟨rfl,.inl rfl⟩
section
variable {J:Env} {fps:Nat->Nat->Prop} {res:List aI} {K:Nat->Prop} {w0 w:World} {F0:Nat->Prop} {P:Program}
theorem ei(D:List (List Int×Int))(j:Nat):(ep D).toList[j]? =(D[j]?).map fun p=>({key:=cF p.1,val:=i64 p.2,born:=j}:MapEntry):=by
 simp[ep,List.getElem?_mapIdx]
theorem BG(D:List (List Int×Int)):(ep D).size=D.length:=by simp[ep]
theorem Ak{D:List (List Int×Int)}{n:Nat}(h:∀p∈D,p.1.length=n):∀e∈(ep D).toList,∃k:List Int,k.length=n/\e.key=cF k:=by
 intro e he;obtain⟨j,hj⟩:=List.getElem?_of_mem he;rw[ei]at hj;cases hd:D[j]? with
 |none=>rw[hd]at hj;simp at hj
 |some p=>
  rw[hd]at hj;simp only[Option.map_some,aa]at hj;subst hj;exact⟨p.1,h p (List.mem_of_getElem? hd),rfl⟩
theorem Ad{D:List (List Int×Int)}{k:List Int}{j:Nat}{p:List Int×Int}(hn:(D.map (·.1)).Nodup)(hj:D[j]? =some p)(hk:p.1=k):bu D k=j:=by
 have hlt:=(List.getElem?_eq_some_iff.1 hj).1;have hp:D[j]=p:=(List.getElem?_eq_some_iff.1 hj).2;have h1:bu D k<D.length:=List.findIdx_lt_length_of_exists ⟨p,List.mem_of_getElem? hj,by simp[hk]⟩
 have h2:(D[bu D k]'h1).1=k:=by
  exact an (p:=(D[bu D k]'h1).1=k) (List.findIdx_getElem (p:=fun p:List Int×Int=>decide (p.1=k)) (xs:=D) (w:=h1))
 have h3:=List.pairwise_iff_getElem.1 hn;rcases Nat.lt_trichotomy (bu D k) j with h|h|h
 ·exact absurd (show(D.map (·.1))[bu D k]'(by simpa using h1)=(D.map (·.1))[j]'(by simpa using hlt) by simp[h2,hp,hk]) (h3 (bu D k) j (by simpa using h1) (by simpa using hlt) h)
 ·exact h
 ·exact absurd (show(D.map (·.1))[j]'(by simpa using hlt)=(D.map (·.1))[bu D k]'(by simpa using h1) by simp[h2,hp,hk]) (h3 j (bu D k) (by simpa using hlt) (by simpa using h1) h)
theorem oY{D:List (List Int×Int)}{k:List Int}:cU D k=true↔ ∃p∈D,p.1=k:=by simp[cU]
theorem z1{D:List (List Int×Int)}{k:List Int}(hn:(D.map (·.1)).Nodup){j:Nat}{p:List Int×Int}(hj:D[j]? =some p)(hk:p.1=k):cU D k=true/\bx D k=p.2/\bu D k=j:=by
 have h:=Ad hn hj hk;refine⟨oY.2 ⟨p,List.mem_of_getElem? hj,hk⟩,?_,h⟩;unfold bx aX;rw[h,aq,hj];rfl
theorem Da{D:List (List Int×Int)}{k:List Int}(h:∀p∈D,p.1≠k):cU D k=false/\bx D k=0/\bu D k=D.length:=by
 have h1:cU D k=false:=by
  cases hc:cU D k with
  |false=>rfl
  |true=>obtain⟨p,hp,hk⟩:=oY.1 hc;exact absurd hk (h p hp)
 have h2:bu D k=D.length:=List.findIdx_eq_length.2 fun x hx=>by simpa using h x hx
 refine⟨h1,?_,h2⟩;unfold bx aX;rw[h2,aq,List.getElem?_eq_none (Nat.le_refl _)];rfl
theorem y9{kt n:Nat}(hk:kf P kt n=true){x:List Int}(hx:x.length=n){D:List (List Int×Int)}(hD:(∀p∈D,p.1.length=n/\bU .i64 p.2/\∀x∈p.1,bU .i64 x)/\(D.map (·.1)).Nodup)(w:World):
  ∃r,(Instr.findKey kt (cF x) (ep D).toList).run P w= .ok r w/\
   ((r=none/\cU D x=false/\bx D x=0/\bu D x=D.length)\/∃p,r=some (bu D x,i64 (bx D x))/\D[bu D x]? =some p/\p.1=x/\p.2=bx D x/\cU D x=true):=by
 obtain⟨r,h1,h2⟩:=jU hk hx w (ep D).toList (Ak fun p hp=>(hD.1 p hp).1)
 refine⟨r,h1,?_⟩;rcases h2 with⟨rfl,h2⟩|⟨j,e,rfl,h2,h3⟩
 ·refine .inl ⟨rfl,Da fun p hp he=>?_⟩
  obtain⟨j,hj⟩:=List.getElem?_of_mem hp;have:(ep D).toList[j]? =some {key:=cF p.1,val:=i64 p.2,born:=j}:=by rw[ei,hj];rfl
  exact h2 _ (List.mem_of_getElem? this) (by rw[he])
 ·rw[ei]at h2;cases hd:D[j]? with
  |none=>rw[hd]at h2;simp at h2
  |some p=>
   rw[hd]at h2;simp only[Option.map_some,aa]at h2;subst h2;have hp:p.1=x:=zJ h3;obtain⟨a,b,c⟩:=z1 hD.2 hd hp;exact .inr ⟨p,by rw[b,c],by rw[c];exact hd,hp,b.symm,a⟩
theorem sN(l:List Int):Instr.sameBits 10000 (cF l) (cF l)=true:=by
 rw[show(10000:Nat)=9999+1 from rfl]
 have:∀l:List Int,((l.map i64).zip (l.map i64)).all (fun p=>Instr.sameBits 9999 p.1 p.2)=true:=by
  intro l;induction l with
  |nil=>rfl
  |cons a l ih=>simp only[List.map_cons,List.zip_cons_cons,List.all_cons,ih,Bool.and_true,i64];simp[Instr.sameBits]
 simpa[Instr.sameBits,cF]using this l
theorem yt{C:Ctx}{t:Nat}{m x r:V}{two:Bool}(hC:C.vo)(h:aQ J fps res K w0 F0 w)(hl:CJ C res t m x two=some r)(hx:ok K x):
  (Instr.lookup t (den J m) (den J x) two).run C.P w= .ok (den J r) w/\ok K r:=by
 unfold CJ at hl;split at hl
 case h_2=>simp at hl
 rename_i i;split at hl
 case h_2=>simp at hl
 rename_i xl;split at hl
 case h_2=>simp at hl
 rename_i l hxl;split at hl
 case h_2=>simp at hl
 rename_i n D hr;split at hl
 case h_2=>simp at hl
 rename_i kt et hu;split at hl
 case isFalse=>simp at hl
 rename_i hc;simp only[ah,aj]at hc;obtain⟨hwide,rfl⟩:=hc;split at hl
 case h_2=>simp at hl
 rename_i z hz;split at hl
 case h_2=>simp at hl
 rename_i kd c;split at hl<;>simp only[aa,reduceCtorEq]at hl
 rename_i hc;simp only[ah,aj]at hc;obtain⟨rfl,rfl⟩:=hc;obtain⟨hx1,hx2⟩:=gP (J:=J) hxl hx.1;obtain⟨fp,hh,_⟩:=h.look hr (by simp)
 obtain⟨_,hD,b1⟩:=hh;obtain⟨q,q1,q2⟩:=y9 hwide hx2 hD w;have hck:=jX hwide hx2 (ep D).isEmpty w;have hzr:=gU (J:=J) (w:=w) hC hz
 have main:(Instr.lookup t (den J (.mp i)) (den J (.ag xl)) two).run C.P w= .ok (if two then .tuple #[i64 (bx D (bj l)),.bool (cU D (bj l))]else i64 (bx D (bj l))) w/\bU .i64 (bx D (bj l)):=by
  rw[hx1];simp only[Instr.lookup,den,Sem.run_bind,aT w hu,Result.andThen_ok,MapKept.run_getObj_map b1,Sem.run_pure,hck,q1];rcases q2 with⟨rfl,a1,a2,_⟩|⟨p,rfl,a1,a2,a3,a4⟩
  ·simp_all[den,i64,bU]
  ·refine⟨by simp_all,?_⟩
   rw[<-a3];exact(hD.1 p (List.mem_of_getElem? a1)).2.1
 obtain⟨main,hin⟩:=main;rw[main];subst hl;cases two
 ·exact⟨rfl,hin⟩
 ·exact⟨by simp[den,aV,i64],hin,trivial,trivial⟩
theorem nK(D:List (List Int×Int))(j:Nat)(k:Value)(h:∀p,D[j]? =some p->cF p.1=k):(ep D).modify j (fun e=> {e with key:=k})=ep D:=by
 apply Array.ext'
 apply List.ext_getElem?
 intro q;rw[Array.getElem?_toList,Array.getElem?_modify,<-Array.getElem?_toList,ei];by_cases e:j=q
 ·subst e;rw[au rfl];cases hd:D[j]? with
  |none=>rfl
  |some p=>simp[h p hd]
 ·rw[ar e]
theorem AG(D:List (List Int×Int))(k:List Int):(ep D).push {key:=cF k,val:=i64 0,born:=D.length}=ep (D++ [(k,0)]):=by
 simp[ep,List.mapIdx_append]
theorem DX(D:List (List Int×Int))(j:Nat)(v:Int)(hj:j<D.length):(ep D).modify j (fun e=> {e with val:=i64 v})=ep (cD D j v):=by
 apply Array.ext'
 apply List.ext_getElem?
 intro q;rw[Array.getElem?_toList,Array.getElem?_modify,<-Array.getElem?_toList,ei,ei];unfold cD aX;rw[List.getElem?_set];by_cases e:j=q
 ·subst e;rw[au rfl,au rfl,au hj,aq,List.getElem?_eq_getElem hj];rfl
 ·rw[ar e,ar e]
theorem Be(D:List (List Int×Int))(j:Nat)(v:Int):(cD D j v).length=D.length:=by simp[cD]
theorem zY(D:List (List Int×Int))(j:Nat)(v:Int):(cD D j v).map (·.1)=D.map (·.1):=by
 apply List.ext_getElem?
 intro q;simp only[cD,List.getElem?_map,List.getElem?_set,aX];by_cases e:j=q
 ·subst e;by_cases h:j<D.length
  ·rw[au rfl,au h,aq,List.getElem?_eq_getElem h];rfl
  ·rw[au rfl,ar h,List.getElem?_eq_none (by omega)]
 ·rw[ar e]
theorem oi{xl:List V}{l:List (Bool×Int)}(h:fm xl=some l)(hk:cm K xl):∀x∈bj l,bU .i64 x:=by
 induction xl generalizing l with
 |nil=>simp only[fm,aa]at h;subst h;simp[bj]
 |cons x xl ih=>
  simp only[fm]at h;split at h
  case h_2=>simp at h
  rename_i k n hn;split at h
  case isFalse=>simp at h
  rename_i hki;have hki:=aj.1 hki;subst hki;split at h<;>simp only[aa,reduceCtorEq]at h
  rename_i m hm;subst h;intro y hy;simp only[bj,List.mem_cons]at hy;rcases hy with rfl|hy
  ·exact(bB (J:=Env.zero) hn hk.1).2
  ·exact ih hm hk.2 y hy
theorem B0{C:Ctx}{res':List aI}{t:Nat}{m x r:V}{qq:Option Prop}(hC:C.vo)(h:aQ J fps res K w0 F0 w)(hs:Li C res t m x=some (qq,r,res'))(hqq:bq qq)(hx:ok K x):
  ∃w',(Instr.mapEntry t (den J m) (den J x)).run C.P w= .ok (den J r) w'/\aQ J fps res' K w0 F0 w'/\(∀i,known res' i↔known res i)/\ok K r:=by
 unfold Li at hs;split at hs
 case h_2=>simp at hs
 rename_i i;split at hs
 case h_2=>simp at hs
 rename_i xl;split at hs
 case h_2=>simp at hs
 rename_i l hxl;split at hs
 case h_2=>simp at hs
 rename_i n D hr;split at hs
 case h_2=>simp at hs
 rename_i kt et hu;split at hs
 case isFalse=>simp at hs
 rename_i hc;simp only[ah,aj]at hc;obtain⟨hwide,rfl⟩:=hc;split at hs
 case h_2=>simp at hs
 rename_i z hz;split at hs
 case h_2=>simp at hs
 rename_i kd c;split at hs<;>simp only[aa,ae,reduceCtorEq]at hs
 rename_i hc;simp only[ah,aj]at hc;obtain⟨rfl,rfl⟩:=hc;obtain⟨rfl,rfl,rfl⟩:=hs;have hfit:D.length<=4611686018427387904:=hqq;have hk:known res i:=by unfold known;rw[hr];simp
 have hh:=h.holds i hk;rw[hr]at hh;obtain⟨a1,hD,b1⟩:=hh;obtain⟨hx1,hx2⟩:=gP (J:=J) hxl hx.1;obtain⟨q,q1,q2⟩:=y9 hwide hx2 hD w;have hck:=jX hwide hx2 false w;have hzr:=gU (J:=J) (w:=w) hC hz;have hset:=MapKept.heap_set (w:=w) (r:=J.num i) (o':= .map (ep (bn D (bj l))) (bn D (bj l)).length) b1;refine⟨{w with heap:=w.heap.setIfInBounds (J.num i) (.map (ep (bn D (bj l))) (bn D (bj l)).length)},?_,?_⟩
 ·rw[hx1];simp only[Instr.mapEntry,den,Sem.run_bind,aT w hu,Result.andThen_ok,MapKept.run_getObj_map b1,hck,q1];rcases q2 with⟨rfl,c1,c2,c3⟩|⟨p,rfl,c1,c2,c3,c4⟩
  ·have e1:bn D (bj l)=D++ [(bj l,0)]:=by unfold bn;rw[ar (by rw[c1];simp)]
   have e2:(bn D (bj l)).length=D.length+1:=by rw[e1];simp
   simp only[den]at hzr;simp only[Sem.run_bind,hzr,Result.andThen_ok,MapKept.run_setObj_map _ b1,Sem.run_pure,c2,c3,goInt,cW,aV,den];rw[show(Value.int IntKind.i64 0)=i64 0 from rfl,AG,<-e1,<-e2]
  ·have e1:bn D (bj l)=D:=by unfold bn;rw[au c4]
   have hg:(ep D)[bu D (bj l)]? =some {key:=cF p.1,val:=i64 p.2,born:=bu D (bj l)}:=by rw[<-Array.getElem?_toList,ei,c1];rfl
   have hks:(Instr.keyThatStays (cF p.1) (cF (bj l))).run C.P w= .ok (cF (bj l)) w:=by
    rw[c2];simp[Instr.keyThatStays,sN]
   simp only[hg,Option.map_some,Option.getD_some,Sem.run_bind,hks,Result.andThen_ok,MapKept.run_setObj_map _ b1,Sem.run_pure,goInt,cW,aV,den,e1];rw[nK D _ _ fun p' hp'=>by rw[c1]at hp';simp only[aa]at hp';subst hp';rw[c2]]
   rfl
 ·have hnew:(∀p∈bn D (bj l),p.1.length=l.length/\bU .i64 p.2/\∀x∈p.1,bU .i64 x)/\((bn D (bj l)).map (·.1)).Nodup:=by
   unfold bn;split
   ·exact hD
   ·rename_i hno;refine⟨fun p hp=>?_,?_⟩
    ·rcases List.mem_append.1 hp with hp|hp
     ·exact hD.1 p hp
     ·simp only[List.mem_singleton]at hp;subst hp;exact⟨hx2,by simp[bU],oi hxl hx.1⟩
    ·rw[List.map_append,List.nodup_append];refine⟨hD.2,by simp,fun a ha b hb=>?_⟩
     simp only[List.map_cons,List.map_nil,List.mem_singleton]at hb;subst hb;obtain⟨p,hp,rfl⟩:=List.mem_map.1 ha;exact fun e=>hno (oY.2 ⟨p,hp,e⟩)
  obtain⟨g1,g2⟩:=h.qE (w':= {w with heap:=w.heap.setIfInBounds (J.num i) (.map (ep (bn D (bj l))) (bn D (bj l)).length)}) (b:=J.num i) (r':= .ms l.length (bn D (bj l))) hr (by simp) (by simp) a1 ⟨a1,hnew,hset.1⟩ rfl rfl rfl (by simp) hset.2
  have hin:bU .i64 (bx D (bj l)):=by
   rcases q2 with⟨_,_,c2,_⟩|⟨p,_,c1,_,c3,_⟩
   ·rw[c2];simp[bU]
   ·rw[<-c3];exact(hD.1 p (List.mem_of_getElem? c1)).2.1
  have hix:bU .i64 (cW (bu D (bj l))):=by
   have:bu D (bj l)<=D.length:=List.findIdx_le_length;simp only[bU,cW];omega
  exact⟨g1,g2,hin,hix,trivial⟩
theorem Dp{res':List aI}{t:Nat}{m s v:V}{q:Option Prop}(h:aQ J fps res K w0 F0 w)(hs:La res m s v=some (q,res'))(hq:bq q)(h1:ok K s)(h2:ok K v):
  ∃w',(Instr.entryStore t (den J m) (den J s) (den J v)).run P w= .ok () w'/\aQ J fps res' K w0 F0 w'/\∀i,known res' i↔known res i:=by
 unfold La at hs;split at hs
 case h_2=>simp at hs
 rename_i i;split at hs
 case h_2=>simp at hs
 rename_i ks j hj;split at hs
 case h_2=>simp at hs
 rename_i kv x hx;split at hs
 case isFalse=>simp at hs
 rename_i hc;simp only[ah,aj]at hc;obtain⟨rfl,rfl⟩:=hc;split at hs<;>simp only[aa,ae,reduceCtorEq]at hs
 rename_i n D hr;obtain⟨rfl,rfl⟩:=hs;obtain⟨j0,j1⟩:0<=j/\j<((aN D:Nat):Int):=hq;have hjl:gX j<D.length:=by unfold aN at j1;unfold gX;omega
 have hk:known res i:=by unfold known;rw[hr];simp
 have hh:=h.holds i hk;rw[hr]at hh;obtain⟨a1,hD,b1⟩:=hh;obtain⟨e1,_⟩:=bB (J:=J) hj h1;obtain⟨e2,e3⟩:=bB (J:=J) hx h2;have hset:=MapKept.heap_set (w:=w) (r:=J.num i) (o':= .map (ep (cD D (gX j) x)) (cD D (gX j) x).length) b1
 have hf:(ep D).findIdx? (fun e=>(e.born:Int)==j)=some (gX j):=by
  rw[Array.findIdx?_eq_some_iff_getElem]
  have hget:∀q (hq:q<(ep D).size),(ep D)[q].born=q:=fun q hq=>by
   have h1:(ep D)[q]? =some (ep D)[q]:=Array.getElem?_eq_getElem hq;rw[<-Array.getElem?_toList,ei]at h1;cases hd:D[q]? with
   |none=>rw[hd]at h1;simp at h1
   |some p=>rw[hd]at h1;simp only[Option.map_some,aa]at h1;rw[<-h1]
  refine⟨by rw[BG];exact hjl,?_,fun q hq=>?_⟩
  ·rw[hget];unfold gX;simp;omega
  ·rw[hget];unfold gX at hq;simp;omega
 refine⟨{w with heap:=w.heap.setIfInBounds (J.num i) (.map (ep (cD D (gX j) x)) (cD D (gX j) x).length)},?_,?_⟩
 ·rw[e1,e2];have:=DX D _ x hjl;simp[Instr.entryStore,den,MapKept.run_getObj_map b1,asInt,asIntOf,hf,MapKept.run_setObj_map _ b1,Be];rw[show(Value.int IntKind.i64 x)=i64 x from rfl,this]
 ·refine h.qE (b:=J.num i) (r':= .ms n (cD D (gX j) x)) hr (by simp) (by simp) a1 ⟨a1,⟨fun p hp=>?_,by rw[zY];exact hD.2⟩,hset.1⟩ rfl rfl rfl (by simp) hset.2
  rcases List.mem_or_eq_of_mem_set hp with hp|rfl
  ·exact hD.1 p hp
  ·have:=hD.1 _ (List.getElem_mem hjl);unfold aX;rw[aq,List.getElem?_eq_getElem hjl];exact⟨this.1,e3,this.2.2⟩
theorem wk(D:List (List Int×Int))(q:Nat)(hD:∀x∈(aX D q ([],0)).1,bU .i64 x):∀(m c:Nat),cm K (mY D q c m)/\oE (mY D q c m)/\∀J,aR J (mY D q c m)=(List.range m).map fun y=>i64 (cC D q (c+y))
 |0,c=>⟨trivial,trivial,fun J=>rfl⟩
 |m+1,c=>by
  obtain⟨a,b,d⟩:=wk D q hD m (c+1)
  have h:bU .i64 (cC D q c):=by
   unfold cC;generalize (aX D q ([],0)).1=l at hD
   unfold aX;rw[aq];cases hc:l[c]? with
   |none=>simp[bU]
   |some x=>exact hD x (List.mem_of_getElem? hc)
  refine⟨⟨h,a⟩,⟨trivial,b⟩,fun J=>?_⟩
  have e:aR J (mY D q c (m+1))=i64 (cC D q c)::aR J (mY D q (c+1) m):=rfl;rw[e,d,List.range_succ_eq_map,List.map_cons,List.map_map];show i64 (cC D q c)::_=i64 (cC D q c)::_
  congr 1
  refine List.map_congr_left fun y _=>?_
  simp only[Function.comp,Nat.add_assoc,Nat.succ_eq_add_one,Nat.add_comm 1 y]
theorem vJ{D:List (List Int×Int)}{q w:Nat}{p:List Int×Int}(hq:D[q]? =some p)(hl:p.1.length=w)(hp:∀x∈p.1,bU .i64 x):
  cm K [V.ag (mY D q 0 w)]/\∀J,den J (V.ag (mY D q 0 w))=cF p.1:=by
 have e:aX D q ([],0)=p:=by unfold aX;rw[aq,hq];rfl
 obtain⟨a,b,d⟩:=wk (K:=K) D q (by rw[e];exact hp) w 0
 refine⟨⟨⟨a,b⟩,trivial⟩,fun J=>?_⟩
 simp only[den,d,cF];congr 2
 subst hl;apply List.ext_getElem (by simp)
 intro y h1 h2;have hy:y<p.1.length:=by simpa using h2
 have e2:cC D q y=p.1[y]:=by
  unfold cC;rw[e];unfold aX;rw[aq,List.getElem?_eq_getElem hy];rfl
 simp only[List.getElem_map,List.getElem_range,Nat.zero_add,e2]
theorem Gt{C:Ctx}{nid t:Nat}{m x:V}{q:Option Prop}{new:List aI}(hl:Ki C res nid t m=some (q,x,new)):∀k,k<new.length->aH new k≠ .yet:=by
 unfold Ki at hl;split at hl
 case h_2=>simp at hl
 split at hl
 case h_2=>simp at hl
 split at hl<;>simp only[aa,ae,reduceCtorEq]at hl
 obtain⟨_,_,rfl⟩:=hl;intro k hk;simp only[List.length_singleton,Nat.lt_one_iff]at hk;subst hk;simp[aH]
theorem BF{C:Ctx}{nid t:Nat}{m x:V}{q:Option Prop}{new:List aI}(h:aQ J fps res K w0 F0 w)(hn:∀k,k<new.length->¬K (nid+k))(hl:Ki C res nid t m=some (q,x,new)):
  ∃w',(Instr.range t (den J m)).run C.P w= .ok (den (J.aZ nid w.heap.size) x) w'/\fJ K J (J.aZ nid w.heap.size) nid new w0 F0 w w'/\ok (fun i=>K i\/fresh nid new.length i) x:=by
 unfold Ki at hl;split at hl
 case h_2=>simp at hl
 rename_i i;split at hl
 case h_2=>simp at hl
 rename_i n D hr;split at hl<;>simp only[aa,ae,reduceCtorEq]at hl
 rename_i kt et hu;obtain⟨rfl,rfl,rfl⟩:=hl;obtain⟨fp,hh,_⟩:=h.look hr (by simp)
 obtain⟨_,hD,b1⟩:=hh;have hki:K i:=h.sub i (cw hr (by simp))
 have hnid:¬K nid:=by simpa using hn 0 (by simp)
 have hne:i≠nid:=fun e=>hnid (e▸hki)
 refine⟨w.alloc (.mapIter (some (J.num i)) D.length #[] D.length),?_,?_,.inr ⟨Nat.le_refl _,by simp⟩⟩
 ·simp only[Instr.range,den,Sem.run_bind,aT w hu,Result.andThen_ok,MapKept.run_getObj_map b1,Sem.run_pure];rw[show(J.aZ nid w.heap.size).num nid=w.heap.size by simp[Env.aZ]]
  rfl
 ·refine⟨(Below.refl _ _).alloc (Nat.le_refl _) _,eN J nid _,fun _ b=>b=w.heap.size,fun k hk=>?_,fun k l b hk hl hne=>?_⟩
  ·simp only[List.length_singleton,Nat.lt_one_iff]at hk;subst hk;refine⟨⟨.inl hki,by simp[Env.aZ],?_⟩,fun b hb=>by subst hb;simp⟩
   rw[show(J.aZ nid w.heap.size).num (nid+0)=w.heap.size by simp[Env.aZ],show(J.aZ nid w.heap.size).num i=J.num i by simp[Env.aZ,hne]]
   exact heap_alloc_new w _
  ·simp only[List.length_singleton,Nat.lt_one_iff]at hk hl;omega
theorem CR{P:Program}{p x:V}{q:Option Prop}{new:List aI}(h:aQ J fps res K w0 F0 w)(hl:LK res p=some (q,x,new))(hq:bq q):
  (Instr.entry (den J p)).run P w= .ok (den J x) w/\ok K x/\new= []:=by
 unfold LK at hl;split at hl
 case h_2=>simp at hl
 rename_i j off;split at hl
 case isFalse=>simp at hl
 rename_i ho;have ho:=aj.1 ho;subst ho;split at hl
 case h_2=>simp at hl
 rename_i i n S hj;split at hl<;>simp only[aa,ae,reduceCtorEq]at hl
 rename_i wd D hi;obtain⟨rfl,rfl,rfl⟩:=hl;obtain⟨hn,h0,h1⟩:n=aN D/\0<aN S/\nL S<aN D:=hq;have hn:n=D.length:=hn;subst hn;obtain⟨_,⟨_,_,c1⟩,_⟩:=h.look hj (by simp)
 obtain⟨_,⟨_,hD,b1⟩,_⟩:=h.look hi (by simp)
 have hlt:nL S<D.length:=h1;have hg:D[nL S]? =some D[nL S]:=List.getElem?_eq_getElem hlt;have hm:=List.getElem_mem hlt;obtain⟨g1,g2⟩:=vJ (K:=K) hg (hD.1 _ hm).1 (hD.1 _ hm).2.2
 have hS:S.toArray=(S.take (S.length-1)).toArray.push (nL S):=by
  apply Array.ext'
  have hne:S≠ []:=fun e=>by subst e;simp[aN]at h0
  simp only[Array.toList_push];have:=List.take_append_getLast (l:=S) hne;simp only[nL,aX,aq];rw[List.getLast_eq_getElem]at this
  rw[List.getElem?_eq_getElem (by have:S.length≠0:=by simpa using hne
                                  omega)]
  simpa[List.dropLast_eq_take]using this.symm
 have he:({key:=cF D[nL S].1,val:=i64 D[nL S].2,born:=nL S}:MapEntry)∈(ep D).toList:=by
  have:(ep D).toList[nL S]? =some {key:=cF D[nL S].1,val:=i64 D[nL S].2,born:=nL S}:=by rw[ei,hg];rfl
  exact List.mem_of_getElem? this
 have hnd:((ep D).toList.map (·.born)).Nodup:=by
  have:(ep D).toList.map (·.born)=List.range D.length:=by
   apply List.ext_getElem?
   intro y;rw[List.getElem?_map,ei];by_cases hy:y<D.length
   ·simp[hy]
   ·simp[hy]
  rw[this];exact List.nodup_range
 rw[hS]at c1;have hrun:=run_entry_at (P:=P) w _ _ _ (S.take (S.length-1)).toArray _ _ _ c1 b1 he hnd;have hv:kb D (nL S)=D[nL S].2:=by unfold kb aX;rw[aq,hg];rfl
 refine⟨?_,⟨g1.1,by rw[hv];exact(hD.1 _ hm).2.1,trivial⟩,rfl⟩
 have e3:den J (.tp [.ag (mY D (nL S) 0 wd),.it .i64 (kb D (nL S))])= .tuple #[den J (.ag (mY D (nL S) 0 wd)),i64 (kb D (nL S))]:=rfl;rw[e3,g2,hv];exact hrun
theorem Cj{P:Program}{p:V}{ty:Nat}{k:V->List aI->Prop}(h:aQ J fps res (known res) w0 F0 w)(hl:Lt res p k):
  ∃v res' w',(Instr.next (den J p) false ty).run P w= .ok (den J v) w'/\aQ J fps res' (known res') w0 F0 w'/\(∀i,known res' i↔known res i)/\ok (known res') v/\k v res':=by
 unfold Lt at hl;split at hl
 case h_2=>exact hl.elim
 rename_i j off;split at hl
 case isFalse=>exact hl.elim
 rename_i ho;have ho:=aj.1 ho;subst ho;split at hl
 case h_2=>exact hl.elim
 rename_i i n S hj;split at hl
 case h_2=>exact hl.elim
 rename_i wd D hi;obtain⟨hn,h1,h2⟩:=hl;have hn:n=D.length:=hn;subst hn;have hkj:known res j:=by unfold known;rw[hj];simp
 have hh:=h.holds j hkj;rw[hj]at hh;obtain⟨c0,c2,c1⟩:=hh;obtain⟨_,⟨_,hD,b1⟩,_⟩:=h.look hi (by simp)
 have hborn:∀x∈(ep D).toList,∃p,D[x.born]? =some p/\x= {key:=cF p.1,val:=i64 p.2,born:=x.born}:=fun x hx=>by
  obtain⟨y,hy⟩:=List.getElem?_of_mem hx;rw[ei]at hy;cases hd:D[y]? with
  |none=>rw[hd]at hy;simp at hy
  |some p=>rw[hd]at hy;simp only[Option.map_some,aa]at hy;subst hy;exact⟨p,hd,rfl⟩
 have hlt:∀x∈(ep D).toList,x.born<D.length:=fun x hx=>by
  obtain⟨p,hp,_⟩:=hborn x hx;exact(List.getElem?_eq_some_iff.1 hp).1
 rcases run_next_at (P:=P) w ty _ _ _ _ _ _ _ c1 b1 hlt (Nat.le_refl _)with⟨e1,e2⟩|⟨e,he,w1,hw1,e2⟩
 ·refine⟨.tp [.cb false],res,w,e2,h,fun _=>Iff.rfl,⟨trivial,trivial⟩,h2 fun q hq=>?_⟩
  have hq:q<D.length:=hq;have hg:(ep D).toList[q]? =some {key:=cF D[q].1,val:=i64 D[q].2,born:=q}:=by rw[ei,List.getElem?_eq_getElem hq];rfl
  have hem:leftOf (ep D) S.toArray= #[]:=Array.eq_empty_of_size_eq_zero e1;unfold leftOf at hem;rw[Array.filter_eq_empty_iff]at hem;have:=hem _ (by simpa using List.mem_of_getElem? hg)
  unfold Eo;simpa using this
 ·have hem:e∈(ep D).toList/\S.contains e.born=false:=by
   unfold leftOf at he;simpa using he
  obtain⟨p,hp,hpe⟩:=hborn e hem.1;have hm:=List.mem_of_getElem? hp;have hD':=hD.1 p hm;obtain⟨g1,g2⟩:=vJ (K:=known res) hp hD'.1 hD'.2.2;have hv:kb D e.born=p.2:=by unfold kb aX;rw[aq,hp];rfl
  have hh1:w1.heap=w.heap:=by rcases hw1 with rfl|rfl<;>rfl
  have hr1:w1.heap[J.num j]? =some (.mapIter (some (J.num i)) D.length S.toArray D.length):=by rw[hh1];exact c1
  have hw':aQ J fps res (known res) w0 F0 w1:=by
   rcases hw1 with rfl|rfl
   ·exact h
   ·exact⟨h.sub,h.old,h.os,h.tape,h.output,fun i hi=>aI.cy _ (h.holds i hi) fun _ _=>rfl,h.lt,h.disj,h.inF,h.same⟩
  have hrl:J.num j<w1.heap.size:=(Array.getElem?_eq_some_iff.1 hr1).1
  obtain⟨r1,r2⟩:=hw'.qE (w':=ChangeMaps.setBlock w1 (J.num j) (.mapIter (some (J.num i)) D.length (S.toArray.push e.born) D.length)) (b:=J.num j) (r':= .mi i D.length (bN S e.born)) hj (by simp) (by simp) c2
   ⟨c0,c2,by simp[ChangeMaps.setBlock,bN,hrl]⟩ rfl rfl rfl (by simp[ChangeMaps.setBlock]) (fun b' hb=>by simp[ChangeMaps.setBlock,Array.getElem?_setIfInBounds_ne (Ne.symm hb)])
  have hin:bU .i64 (kb D e.born):=by rw[hv];exact hD'.2.1
  have e3:den J (.tp [.cb true,.ag (mY D e.born 0 wd),.it .i64 (kb D e.born)])= .tuple #[.bool true,den J (.ag (mY D e.born 0 wd)),i64 (kb D e.born)]:=rfl;have k1:=congrArg MapEntry.key hpe;have k2:=congrArg MapEntry.val hpe
  refine⟨.tp [.cb true,.ag (mY D e.born 0 wd),.it .i64 (kb D e.born)],_,_,?_,r1.ki fun i hi=>(r2 i).2 hi,r2,⟨trivial,(br (fun i hi=>(r2 i).2 hi) _ g1).1,hin,trivial⟩,h1 e.born (hlt e hem.1) (by unfold Eo;simpa using hem.2)⟩
  refine e2.trans ?_;rw[e3,g2,hv,k1,k2]
theorem fJ.EZ{nid n:Nat}(hn:¬K nid):fJ K J (J.aZ nid w.heap.size) nid [.ms n []] w0 F0 w (w.alloc (.map #[] 0)):=by
 refine⟨(Below.refl _ _).alloc (Nat.le_refl _) _,eN J nid _,fun _ b=>b=w.heap.size,fun k hk=>?_,fun k l b hk hl hne=>?_⟩
 ·simp only[List.length_singleton,Nat.lt_one_iff]at hk;subst hk;refine⟨⟨by simp[Env.aZ],⟨by simp,List.nodup_nil⟩,?_⟩,fun b hb=>by subst hb;simp⟩
  rw[show(J.aZ nid w.heap.size).num (nid+0)=w.heap.size by simp[Env.aZ]]
  exact heap_alloc_new w _
 ·simp only[List.length_singleton,Nat.lt_one_iff]at hk hl;omega
end
end Go.Sx
namespace Go.Sx
open Go.RowKit (Below)
def eo(P:Program)(f:Nat):Bool:=
 match P.funcs[f]? with
 |some fn=>fn.name != "runtime.NumGoroutine" &&fn.body.isSome
 |none=>false
def G3(C:Ctx)(res:List aI)(nid:Nat)(fv:V)(args:List V):RR:=
 match fv with
 | .fn f caps=>match C.Γ f with
   |some g=>if Nat.blt f 2000 then(if eo C.P f then g res nid (args++caps)else none)else none
   |none=>none
 |_=>none
def HT(P:Program)(res:List aI)(t:Nat)(x:V):Option (Option Prop×V):=
 match P.underlying t with
 |some .string=>match x with
  | .st s=>some (some (dI .i64 (JA s)),.it .i64 (JA s))
  |_=>none
 |some (.slice _)=>match x with
  | .sa id=>match bD res id with
    | .arr _ _ l=>some (none,.it .i64 (cW l.len))
    | .obs _ _ L=>some (none,.it .i64 (cW (aN L)))
    | .que _ _ Q=>some (none,.it .i64 (cW (aN Q)))
    |_=>none
  | .sc _ len _=>if bU .i64 (len:Int)then some (none,.ci .i64 (len:Int))else none
  | .ks x _ _ lo hi=>if Bt x&&bU .i64 ((hi-lo:Nat):Int)then some (none,.ci .i64 ((hi-lo:Nat):Int))else none
  | .nl (.slice none 0 0)=>some (none,.ci .i64 0)
  |_=>none
 |some (.array n _)=>if bU .i64 (n:Int)then some (none,.ci .i64 (n:Int))else none
 |_=>none
def IP(x y:V):Option V:=
 match toInt x,toInt y with
 |some (k,a),some (k',b)=>if k==k' then some (.it k (DM a b))else none
 |_,_=>none
def Hg(x y:V):Option V:=
 match toInt x,toInt y with
 |some (k,a),some (k',b)=>if k==k' then some (.it k (imax a b))else none
 |_,_=>none
def qK(C:Ctx)(res:List aI)(b:Builtin)(ts:List Nat)(xs:List V):Option (Option Prop×V):=
 match b,ts,xs with
 | .len,t::_,[x]=>HT C.P res t x
 | .min,_,[x,y]=>(IP x y).map fun r=>(none,r)
 | .max,_,[x,y]=>(Hg x y).map fun r=>(none,r)
 |_,_,_=>none
def zU(c a b:V):Option V:=
 match toBool c,toBool a,toBool b with
 |some x,some y,some z=>
  if EO c then some (if x then a else b)
  else match a,b with
   | .cb true,_=>some (.bo (Ji x z))
   | .cb false,_=>some (.bo (GR (Es x) z))
   |_,.cb false=>some (.bo (GR x y))
   |_,.cb true=>some (.bo (Ji (Es x) y))
   |_,_=>some (.bo (J3 x y z))
 |_,_,_=>none
theorem yK{c a b r:V}(h:zU c a b=some r):∃x y z,toBool c=some x/\toBool a=some y/\toBool b=some z/\toBool r=some (if x then y else z):=by
 unfold zU at h;split at h
 ·rename_i x y z hc ha hb;refine⟨x,y,z,hc,ha,hb,?_⟩;split at h
  ·grind
  ·grind[toBool,GR,Ji,Es,J3]
 ·simp at h
def Et(v:V)(b:Bool):V:=
 match v with
 | .cb true=> .cb false
 | .cb false=> .cb true
 |_=> .bo (Es b)
theorem Aw{v:V}{b:Bool}(h:toBool v=some b):toBool (Et v b)=some (!b):=by
 cases v<;>simp[toBool]at h<;>subst h
 ·rename_i b;cases b<;>rfl
 ·rfl
def isStr(P:Program)(t:Nat)(x i:V):Option (Option Prop×V):=
 match P.underlying t,x,toInt i with
 |some .string,.st s,some (_,j)=>some (some (LX s j),.bt (sat s (gX j)))
 |_,_,_=>none
theorem yD{P:Program}{J:Env}{K:Nat->Prop}{w:World}{t:Nat}{x i r:V}{q:Option Prop}(h:isStr P t x i=some (q,r))(hq:bq q)(hi:ok K i):(Instr.index t (den J x) (den J i)).run P w= .ok (den J r) w/\ok K r:=by
 unfold isStr at h;split at h<;>simp only[aa,ae,reduceCtorEq]at h
 rename_i s k j hu hj;obtain⟨rfl,rfl⟩:=h;obtain⟨h0,h1⟩:=(show LX s j from hq);refine⟨?_,trivial⟩;rw[(bB (J:=J) hj hi).1];have hlt:j.toNat<s.size:=by omega
 have hg:s[j.toNat]? =some (sat s j.toNat):=by
  have hd:j.toNat<s.data.size:=hlt;rw[getElem?_pos s j.toNat hlt];congr 1
  unfold sat;rw[Array.getD_eq_getD_getElem?,Array.getElem?_eq_getElem hd];rfl
 simp only[Instr.index,asIntOf,Sem.run_bind,Sem.run_pure,Result.andThen_ok,aT w hu,den,h0,if_true,hg,gX]
def EV(op:BinOp)(x y:V):Option (Option Prop×V):=
 match op,x,y with
 | .add,.st a,.st b=>some (some (jC a b),.st (uG a b))
 |_,_,_=>none
theorem Bi{P:Program}{J:Env}{K:Nat->Prop}{op:BinOp}{t:Nat}{x y r:V}{q:Option Prop}(w:World)(o1 o2:Operand)(h:EV op x y=some (q,r))(hq:bq q):
  (do eqGuard op t o1 o2 (den J x) (den J y);binOp op t (den J x) (den J y)).run P w= .ok (den J r) w/\ok K r:=by
 unfold EV at h;split at h<;>simp only[aa,ae,reduceCtorEq]at h
 rename_i a b;obtain⟨rfl,rfl⟩:=h;have hq:(a.size:Int)+(b.size:Int)<=9223372036854775807:=hq;have hm:IntKind.i64.max=9223372036854775807:=rfl;refine⟨?_,trivial⟩;simp[eqGuard,binOp,Op.stringOp,den,uG,hm];omega
def nO(sl:List S)(ch:List (Nat×Bool))(ps:List (Nat×Operand)):Option (List (Nat×V)):=
 allM (fun p:Nat×Operand=>(bS sl ch p.2).map fun v=>(p.1,v)) ps
def uC(C:Ctx)(sl:List S)(res:List aI)(nid:Nat)(ch:List (Nat×Bool)):Op->RR
 | .move x=>(bS sl ch x).map fun v=>(none,v,[])
 | .assign x=>(bS sl ch x).map fun v=>(none,v,[])
 | .pick c a b=>match c with
   | .tmp s=>match bS sl ch c with
     |some (.cb x)=>if x then(bS sl ch a).map fun v=>(none,v,[])else(bS sl ch b).map fun v=>(none,v,[])
     |some cv=>match bS sl ((s,true)::ch) a,bS sl ((s,false)::ch) b with
      |some av,some bv=>(zU cv av bv).map fun v=>(none,v,[])
      |_,_=>none
     |none=>none
   |_=>none
 | .box t x=>match bS sl ch x with
   |some v=>if bp v then none else some (none,.lp nid 0,[.blk t v])
   |none=>none
 | .alloc t=>match C.Z t with
   |some z=>some (none,.lp nid 0,[.blk t z])
   |none=>none
 | .makeSlice t x y=>match bS sl ch x,bS sl ch y with
   |some a,some b=>vL C nid t a b
   |_,_=>none
 | .makeInterface t x=>match bS sl ch x,C.P.underlying t with
   |some v,some d=>match d with
    | .interface _=>none
    |_=>some (none,.ic t v,[])
   |_,_=>none
 | .makeMap t r=>match r with
   |none=>match C.P.underlying t with
    |some (.map kt et)=>match C.P.underlying kt with
     |some (.int kd)=>some (none,.mp nid,[.mp kd [] []])
     |some (.struct _)=>K8 C kt et nid
     |_=>none
    |_=>none
   |some _=>none
 | .lookup t m x two=>match bS sl ch m,bS sl ch x with
   |some mv,some xv=>match Ea C res t mv xv two with
    |some y=>some (none,y,[])
    |none=>match BX C res t mv xv two with
     |some y=>some (none,y,[])
     |none=>match CJ C res t mv xv two with
      |some y=>some (none,y,[])
      |none=>none
   |_,_=>none
 | .range t x=>match bS sl ch x with
   |some m=>Ki C res nid t m
   |none=>none
 | .entry x=>match bS sl ch x with
   |some p=>LK res p
   |none=>none
 | .load t x=>match bS sl ch x with
   |some p=>(rA C res t p).map fun r=>(r.1,r.2,[])
   |none=>none
 | .fieldAddr t x f=>match bS sl ch x with
   |some p=>(KW C.P t p f).map fun r=>(none,r,[])
   |none=>none
 | .field t x f=>match bS sl ch x with
   |some p=>(KM C.P t p f).map fun r=>(none,r,[])
   |none=>none
 | .indexAddr t x i=>match bS sl ch x,bS sl ch i with
   |some p,some j=>(KZ C.P res t p j).map fun r=>(r.1,r.2,[])
   |_,_=>none
 | .index t x i=>match bS sl ch x,bS sl ch i with
   |some p,some j=>match KH C.P t p j with
    |some r=>some (r.1,r.2,[])
    |none=>(isStr C.P t p j).map fun r=>(r.1,r.2,[])
   |_,_=>none
 | .slice t x lo hi mx=>match bS sl ch x,lo.map (bS sl ch),hi.map (bS sl ch),mx with
   |some p,none,none,none=>(GQ C.P res t p none none).map fun r=>(r.1,r.2,[])
   |some p,some (some a),none,none=>(GQ C.P res t p (some a) none).map fun r=>(r.1,r.2,[])
   |some p,none,some (some b),none=>(GQ C.P res t p none (some b)).map fun r=>(r.1,r.2,[])
   |some p,some (some a),some (some b),none=>(GQ C.P res t p (some a) (some b)).map fun r=>(r.1,r.2,[])
   |_,_,_,_=>none
 | .nilCheck x=>match bS sl ch x with
   |some (.lp i o)=>some (none,.lp i o,[])
   |some (.lx a b c d e f)=>some (none,.lx a b c d e f,[])
   |some (.ap a b c d)=>some (none,.ap a b c d,[])
   |some (.ax a b c d e f g h)=>some (none,.ax a b c d e f g h,[])
   |some (.op a b)=>some (none,.op a b,[])
   |some (.fn f l)=>some (none,.fn f l,[])
   |_=>none
 | .binOp op t x y _=>match bS sl ch x,bS sl ch y with
   |some a,some b=>match Fw C.P op t a b with
    |some r=>some (r.1,r.2,[])
    |none=>(EV op a b).map fun r=>(r.1,r.2,[])
   |_,_=>none
 | .unOp .not _ x=>match bS sl ch x with
   |some v=>match toBool v with
    |some b=>some (none,Et v b,[])
    |none=>none
   |none=>none
 | .unOp .neg _ x=>match bS sl ch x with
   |some v=>match toInt v with
    |some (k,n)=>if oG v then(if bU k (0-n)then some (none,.ci k (0-n),[])else none)else some (some (dI k (sK 0 n)),.it k (sK 0 n),[])
    |none=>none
   |none=>none
 | .convert s d x=>match bS sl ch x with
   |some v=>match KX C.P s d v with
    |some r=>some (r.1,r.2,[])
    |none=>(KO C.P res s d v).map fun r=>(r.1,r.2,[])
   |none=>none
 | .extract x i=>match bS sl ch x with
   |some (.tp l)=>(l[i]?).map fun v=>(none,v,[])
   |_=>none
 | .makeFunc (.func f) first caps=>if first.isEmpty then(if Nat.blt f 2000 then(gz sl ch caps.toList).map fun l=>(none,.fn f l,[])else none)else if caps.isEmpty then(gz sl ch first.toList).map fun l=>(none,.fn (f+2000) l,[])else none
 | .build t ps=>match nO sl ch ps.toList with
   |some l=>(uB C t l).map fun r=>(none,r,[])
   |none=>none
 | .buildSlice t n ps=>match nO sl ch ps.toList with
   |some l=>(J2 C t n l nid).map fun r=>(none,r.1,r.2)
   |none=>none
 | .call c=>match c.callee with
   | .value f=>match bS sl ch f,gz sl ch c.args.toList with
     |some fv,some vs=>G3 C res nid fv vs
     |_,_=>none
   | .builtin b=>match gz sl ch c.args.toList with
     |some vs=>match b with
      | .append=>Dm C res nid c.argTypes.toList vs
      |b=>(qK C res b c.argTypes.toList vs).map fun r=>(r.1,r.2,[])
     |none=>none
   | .invoke _ _=>none
 |_=>none
class Fen where
 nar:Prop
def FF[Fen](P:Program)(ro:Option Nat):Fence:= {fn:=fun f=>Fen.nar->(P.funcs[f]?).isSome=true,depth:=none,alive:=false,round:=ro}
theorem iL[Fen](P:Program)(ro:Option Nat)(n:Nat):(FF P ro).room n:=fun _ h=>by simp[FF]at h
theorem qR[Fen]{P:Program}{ro ro':Option Nat}{n n' f:Nat}{args:Array Value}{w:World}{R:Ending->World->Prop}(h:CallsIn (FF P ro) n P f args w R):CallsIn (FF P ro') n' P f args w R:=
 ⟨h.1,fun cs _=>h.2 cs (iL P ro _)⟩
theorem Cr[Fen]{P:Program}{ro:Option Nat}{n f:Nat}{args:Array Value}{w:World}{R:Ending->World->Prop}(h:CallsIn (FF P ro) n P f args w R):Calls P f args w R:=h.calls (fun k=>iL P ro k)
theorem EF[Fen](P:Program)(hn:¬Fen.nar):FF P none=Fence.wide:=by
 have:(fun f=>Fen.nar->(P.funcs[f]?).isSome=true)=fun _:FuncId=>True:=funext fun f=>propext ⟨fun _=>trivial,fun _ h=>(hn h).elim⟩
 unfold FF Fence.wide;rw[this]
theorem rN[Fen]{P:Program}{n f:Nat}{args:Array Value}{w:World}{R:Ending->World->Prop}(hn:¬Fen.nar)(h:Calls P f args w R):CallsIn (FF P none) n P f args w R:=by
 rw[EF P hn];exact callsIn_wide.2 h
def bZ(o:Oper):Prop:=∀c,o.op≠ .defer c
def KI(P:Program)(f:Nat):Bool:=(P.funcs[f]?).isSome
def Hs(P:Program):V->Bool
 | .fn g _=>KI P (xx g)
 | .ch _ g _ y=>KI P (xx g)&&Hs P y
 | .yl _=>true
 | .nl v=>match v with
   | .nilFunc=>true
   |_=>false
 |_=>false
def KV(P:Program)(sl:List S)(o:Oper):Bool:=
 match o.op with
 | .call c=>match c.callee with
   | .builtin _=>true
   | .invoke _ _=>false
   | .value f=>match f with
     | .func g=>KI P g
     | .tmp t=>match bh sl t with
       | .v x=>Hs P x
       | .gv _ x=>Hs P x
       | .ud=>true
       |_=>false
     |_=>false
 |_=>true
theorem uh{P:Program}{g:Nat}{l:List Value}(h:KI P (xx g)=true){args:Array Value}{w w':World}{d:Deferred}(hd:(Deferred.ofValue (xy g l) args).run P w= .ok d w'){f:Nat}(hf:d.target.leads P w' d.args=some f):(P.funcs[f]?).isSome=true:=by
 unfold xy at hd;unfold xx at h;split at hd<;>rename_i hc<;>simp only[hc,if_true,Bool.false_eq_true,if_false]at h<;>simp only[Deferred.ofValue,Sem.run_pure,Result.ok.injEq]at hd<;>obtain⟨rfl,rfl⟩:=hd<;>simp only[Target.leads,aa]at hf<;>subst hf<;>exact h
theorem rq{P:Program}{J:Env}:∀(x:V),Hs P x=true->∀args w d w',(Deferred.ofValue (den J x) args).run P w= .ok d w'->∀f,d.target.leads P w' d.args=some f->(P.funcs[f]?).isSome=true
 | .fn g l,h,args,w,d,w',hd,f,hf=>uh h hd hf
 | .ch b g l y,h,args,w,d,w',hd,f,hf=>by
   simp only[Hs,ah]at h;cases b
   ·simp only[den]at hd;exact rq y h.2 args w d w' hd f hf
   ·exact uh h.1 hd hf
 | .yl id,h,args,w,d,w',hd,f,hf=>by
   simp only[den,Deferred.ofValue,Sem.run_pure,Result.ok.injEq]at hd;obtain⟨rfl,rfl⟩:=hd;simp[Target.leads]at hf
 | .nl v,h,args,w,d,w',hd,f,hf=>by
   cases v<;>simp only[Hs,Bool.false_eq_true]at h
   simp only[den,Deferred.ofValue,Sem.run_pure,Result.ok.injEq]at hd;obtain⟨rfl,rfl⟩:=hd;simp[Target.leads]at hf
 | .cb _,h,_,_,_,_,_,_,_| .bo _,h,_,_,_,_,_,_,_| .ci _ _,h,_,_,_,_,_,_,_| .it _ _,h,_,_,_,_,_,_,_| .bt _,h,_,_,_,_,_,_,_| .st _,h,_,_,_,_,_,_,_
 | .lp _ _,h,_,_,_,_,_,_,_| .lx _ _ _ _ _ _,h,_,_,_,_,_,_,_| .sc _ _ _,h,_,_,_,_,_,_,_| .so _ _,h,_,_,_,_,_,_,_| .ap _ _ _ _,h,_,_,_,_,_,_,_| .sa _,h,_,_,_,_,_,_,_
 | .op _ _,h,_,_,_,_,_,_,_| .ic _ _,h,_,_,_,_,_,_,_| .ag _,h,_,_,_,_,_,_,_| .tp _,h,_,_,_,_,_,_,_| .key _,h,_,_,_,_,_,_,_| .sl _,h,_,_,_,_,_,_,_| .by _,h,_,_,_,_,_,_,_
 | .ob _,h,_,_,_,_,_,_,_| .mp _,h,_,_,_,_,_,_,_| .ax _ _ _ _ _ _ _ _,h,_,_,_,_,_,_,_| .bs _ _ _,h,_,_,_,_,_,_,_| .ks _ _ _ _ _,h,_,_,_,_,_,_,_| .vw _ _ _ _,h,_,_,_,_,_,_,_=>by simp[Hs]at h
theorem vZ{P:Program}{J:Env}{K:Nat->Prop}{sl:List S}{a:Act}{o:Oper}(hF:er J K sl a)(h:KV P sl o=true)(w:World):∀f,o.about P w a.eval=some f->(P.funcs[f]?).isSome=true:=by
 intro f hf;have hund:∀args w1 d w',(Deferred.ofValue undef args).run P w1= .ok d w'->False:=fun args w1 d w' hd=>by simp[Deferred.ofValue,undef]at hd
 unfold Oper.about at hf;unfold KV at h;split at hf
 ·rename_i c hc;rw[hc]at h;simp only at h;split at hf
  ·rename_i d w' hd;unfold resolve at hd;split at h
   ·rename_i b hb;rw[hb]at hd;simp only[Sem.run_pure,Result.ok.injEq]at hd;obtain⟨rfl,rfl⟩:=hd;simp[Target.leads]at hf
   ·simp at h
   ·rename_i g hg;rw[hg]at hd;simp only at hd;split at h
    ·rename_i k;simp only[Act.eval,Deferred.ofValue,Sem.run_pure,Result.ok.injEq]at hd;obtain⟨rfl,rfl⟩:=hd;simp only[Target.leads,aa]at hf;subst hf;exact h
    ·rename_i t;have hs:=hF.2 t;have he:a.eval (.tmp t)=a.tmps.getD t undef:=rfl;rw[he]at hd;split at h
     ·rename_i x hx;rw[hx]at hs;rw[hs.1]at hd;exact rq x h _ _ _ _ hd f hf
     ·rename_i ch x hx;rw[hx]at hs;cases hgo:gx sl ch with
      |true=>rw[(hs.1 hgo).1]at hd;exact rq x h _ _ _ _ hd f hf
      |false=>rw[hs.2 hgo]at hd;exact(hund _ _ _ _ hd).elim
     ·rename_i hx;rw[hx]at hs;rw[show a.tmps.getD t undef=undef from hs]at hd;exact(hund _ _ _ _ hd).elim
     ·simp at h
    ·simp at h
  ·simp at hf
 ·simp at hf
theorem cL[Fen]{P:Program}{ro:Option Nat}{o:Oper}{a:Act}{w:World}{next:Act->World->Prop}{Q:Exit->Act->World->Prop}(hd:ro≠none->bZ o)(hab:∀f,o.about P w a.eval=some f->(P.funcs[f]?).isSome=true)
  (h:o.uponIn (FF P ro) 0 P a next Q ((execOp a.eval o).run P w)):o.wpIn (FF P ro) 0 P a w next Q:=by
 refine⟨fun f hf _=>hab f hf,?_⟩
 have hs:o.semAt (FF P ro).round a.eval=execOp a.eval o:=by
  show o.semAt ro a.eval=_
  cases ro with
  |none=>exact Oper.semAt_none _ _
  |some l=>exact Oper.semAt_some l _ o (hd (by simp))
 rw[hs];exact h
def Yields[Fen](P:Program)(o:Oper)(a:Act)(w:World)(R:Value->World->Prop):Prop:=
 (∃v w',(execOp a.eval o).run P w= .ok (.value v) w'/\R v w')\/
 ∃f args,(execOp a.eval o).run P w= .ok (.enter f args) w/\CallsIn (FF P none) 0 P f args w fun e w'=>∃v,e= .returned v/\R v w'
theorem Yields.wp[Fen]{P:Program}{o:Oper}{a:Act}{w:World}{R:Value->World->Prop}{next:Act->World->Prop}{Q:Exit->Act->World->Prop}(h:Yields P o a w R)
  {ro:Option Nat} (hn:∀v w',R v w'->next (a.put o.dst v) w'):o.uponIn (FF P ro) 0 P a next Q ((execOp a.eval o).run P w):=by
 rcases h with⟨v,w',h1,h2⟩|⟨f,args,h1,h2⟩
 ·rw[h1];exact hn v w' h2
 ·rw[h1];refine⟨fun h=>by simp[FF]at h,CallsIn.mono (qR h2) fun e w' ⟨v,he,hr⟩=>?_⟩
  subst he;exact hn v w' hr
def kh(K:Nat->Prop)(J:Env)(nid:Nat)(x:V)(new:List aI)(w0:World)(F0:Nat->Prop)(w:World)(v:Value)(w':World):Prop:=
 ∃ρ',fJ K J ρ' nid new w0 F0 w w'/\v=den ρ' x/\ok (fun i=>K i\/fresh nid new.length i) x
def KF(n:Int):V:= .ag [.it .i64 n,.st ⟨#[]⟩,.ag [.key void,.key void,.key void]]
def yN(te:Nat)(k:IntKind)(n:Int):V:=if te<1000000 then .it k n else KF n
def JY(te:Nat):Nat:=if te<1000000 then te else te-1000000
def Ij[Fen](P:Program)(f ts te:Nat):Prop:=
 (∀p w,CallsDIn (FF P none) 0 P f #[p] .returning w fun e u' w'=>(∃v,e= .returned v)/\u'= .returning/\w'=w)/\
 ∀b off ty cs cs' k n w,(te<1000000\/k= .i64)->bU k n->w.heap[b]? =some (.cells cs ty (0,0))->(∀w1:World,w1.heap[b]? =some (.cells cs ty (0,0))->(Instr.storeAt (JY te) (.pointer (some ⟨b,off,none⟩)) (den Env.zero (yN te k n))).run P w1= .ok () (w1.setRow b cs'))->
  CallsDIn (FF P none) 0 P f #[.pointer (some ⟨b,off,none⟩)] (.panicking [{v:= .iface ts (.agg #[.int k n]),recovered:=false}]) w fun e u' w''=>
   (∃v,e= .returned v)/\u'= .panicking [{v:= .iface ts (.agg #[.int k n]),recovered:=true}]/\Below w.heap.size (w.setRow b cs') w''
structure Ctx.Sound[Fen](C:Ctx):Prop where
 z:C.vo
 mixed:C.P.follows .mixedOrders=true
 ct:∀f g,C.Γ f=some g->∀J fps res K w0 F0 w nid args q x new,aQ J fps res K w0 F0 w->cm K args->g res nid args=some (q,x,new)->bq q->
  (∀k,k<new.length->¬K (nid+k))->
  (CallsIn (FF C.P none) 0 C.P f (aV J args).toArray w fun e w'=>∃v,e= .returned v/\kh K J nid x new w0 F0 w v w')/\∀k,k<new.length->aH new k≠ .yet
 dk:∀f ts te,C.D f=some (ts,te)->Ij C.P f ts te
section
variable {C:Ctx} {J:Env} {fps:Nat->Nat->Prop} {sl:List S} {res:List aI} {K:Nat->Prop} {w0 w:World} {F0:Nat->Prop} {a:Act} {nid:Nat} {ch:List (Nat×Bool)}
theorem xO{x:V}(hx:ok K x):kh K J nid x [] w0 F0 w (den J x) w:=
 ⟨J,fJ.refl _ _ _ _ _ _,rfl,bE (fun _ h=> .inl h) x hx⟩
theorem nS{ps:List (Nat×Operand)}{l:List (Nat×V)}(hF:er J K sl a)(hg:gx sl ch=true)(h:nO sl ch ps=some l):
  (ps.map fun p=>(p.1,a.eval p.2))=l.map (fun p=>(p.1,den J p.2))/\∀p∈l,ok K p.2:=by
 induction ps generalizing l with
 |nil=>simp only[nO,allM,aa]at h;subst h;exact⟨rfl,by simp⟩
 |cons p ps ih=>
  simp only[nO,allM]at h;split at h
  ·rename_i y ys hy hys;simp only[aa]at h;subst h;cases hv:bS sl ch p.2 with
   |none=>simp[hv]at hy
   |some v=>
    simp only[hv,Option.map_some,aa]at hy;subst hy;obtain⟨e1,e2⟩:=dv hF hg hv;obtain⟨i1,i2⟩:=ih hys
    exact⟨by simp[e1,i1],fun q hq=>by
     rcases List.mem_cons.1 hq with rfl|hq
     ·exact e2
     ·exact i2 q hq⟩
  ·simp at h
theorem AE{t:Nat}{x r:V}{q:Option Prop}(h:aQ J fps res K w0 F0 w)(hl:HT C.P res t x=some (q,r))(hq:bq q)(ts:List Nat)(ty:Nat):
  (Builtin.len_ (t::ts).toArray ty #[den J x]).run C.P w= .ok (den J r) w/\ok K r:=by
 unfold HT at hl;have hge:∀(l:List Nat),(t::l).toArray[0]? =some t:=fun l=>by simp
 split at hl
 ·rename_i hu;split at hl<;>simp only[aa,ae,reduceCtorEq]at hl
  obtain⟨rfl,rfl⟩:=hl;exact⟨by simp[Builtin.len_,den,aT w hu,goInt,JA],hq⟩
 ·rename_i e hu;split at hl
  ·rename_i id;split at hl<;>simp only[aa,ae,reduceCtorEq]at hl
   ·rename_i own esz l hc;obtain⟨_,rfl⟩:=hl;obtain⟨fp,hh,_⟩:=h.look hc (by simp)
    obtain⟨_,h2,h3,_⟩:=hh;exact⟨by simp[Builtin.len_,den,aT w hu,goInt,h2,cW,aN],by simp only[ok,bU,cW,aN];omega⟩
   ·rename_i ty q' L hc;obtain⟨_,rfl⟩:=hl;obtain⟨fp,hh,_⟩:=h.look hc (by simp)
    obtain⟨_,_,h2,h3,_⟩:=hh;exact⟨by simp[Builtin.len_,den,aT w hu,goInt,h2,cW,aN],by simp only[ok,bU,cW,aN];omega⟩
   ·rename_i ty esz l hc;obtain⟨_,rfl⟩:=hl;obtain⟨fp,hh,_⟩:=h.look hc (by simp)
    obtain⟨_,h2,h3,_⟩:=hh;exact⟨by simp[Builtin.len_,den,aT w hu,goInt,h2,cW,aN],by simp only[ok,bU,cW,aN];omega⟩
  ·split at hl<;>simp only[aa,ae,reduceCtorEq]at hl
   rename_i hin;obtain⟨_,rfl⟩:=hl;exact⟨by simp[Builtin.len_,den,aT w hu,goInt],hin⟩
  ·rename_i p z n lo hi;split at hl<;>simp only[aa,ae,reduceCtorEq]at hl
   rename_i hc;simp only[ah,ai]at hc;obtain⟨_,rfl⟩:=hl;obtain⟨b,o,hd⟩:=nW (J:=J) hc.1;exact⟨by simp[Builtin.len_,den,pC,hd,aT w hu,goInt],hc.2⟩
  ·simp only[aa,ae]at hl;obtain⟨_,rfl⟩:=hl;exact⟨by simp[Builtin.len_,den,aT w hu,goInt],by simp[ok,bU]⟩
  ·simp at hl
 ·rename_i n e hu;split at hl<;>simp only[aa,ae,reduceCtorEq]at hl
  rename_i hin;obtain⟨_,rfl⟩:=hl;exact⟨by simp[Builtin.len_,aT w hu,goInt,den],hin⟩
 ·simp at hl
theorem gN[Fen]{o:Oper}{q:Option Prop}{x:V}{new:List aI}(hC:C.Sound)(h:uC C sl res nid ch o.op=some (q,x,new))(hF:er J K sl a)(hH:aQ J fps res K w0 F0 w)
  (hg:gx sl ch=true) (hq:bq q) (hfr:∀k,k<new.length->¬K (nid+k)):
  Yields C.P o a w (kh K J nid x new w0 F0 w)/\∀k,k<new.length->aH new k≠ .yet:=by
 have pureY:∀{y:V},(execOp a.eval o).run C.P w= .ok (.value (den J y)) w->ok K y->x=y->new= []->
   Yields C.P o a w (kh K J nid x new w0 F0 w)/\∀k,k<new.length->aH new k≠ .yet:=by
  intro y h1 h2 h3 h4;subst h3;subst h4;exact⟨.inl ⟨_,_,h1,xO h2⟩,fun k hk=>by simp at hk⟩
 have ov:∀{o:Operand} {y:V},bS sl ch o=some y->a.eval o=den J y/\ok K y:=fun ho=>dv hF hg ho
 obtain⟨dst,op,type,pos,after,guard⟩:=o;simp only at h;cases op<;>simp only[uC,reduceCtorEq]at h
 case move y=>
  cases hy:bS sl ch y with
  |none=>simp[hy]at h
  |some v=>
   simp only[hy,Option.map_some,aa,ae]at h;obtain⟨_,rfl,rfl⟩:=h;exact pureY (by simp[execOp,(ov hy).1]) (ov hy).2 rfl rfl
 case assign y=>
  cases hy:bS sl ch y with
  |none=>simp[hy]at h
  |some v=>
   simp only[hy,Option.map_some,aa,ae]at h;obtain⟨_,rfl,rfl⟩:=h;exact pureY (by simp[execOp,(ov hy).1]) (ov hy).2 rfl rfl
 case pick c y z=>
  split at h
  ·rename_i s;split at h
   ·rename_i x hc;obtain⟨c1,c2⟩:=ov hc;cases x with
    |true=>
     simp only[if_true]at h;cases ha:bS sl ch y with
     |none=>simp[ha]at h
     |some v=>
      simp only[ha,Option.map_some,aa,ae]at h;obtain⟨_,rfl,rfl⟩:=h;exact pureY (by simp[execOp,c1,den,asBool,(ov ha).1]) (ov ha).2 rfl rfl
    |false=>
     simp only[Bool.false_eq_true,if_false]at h;cases ha:bS sl ch z with
     |none=>simp[ha]at h
     |some v=>
      simp only[ha,Option.map_some,aa,ae]at h;obtain⟨_,rfl,rfl⟩:=h;exact pureY (by simp[execOp,c1,den,asBool,(ov ha).1]) (ov ha).2 rfl rfl
   rename_i cv _ hc;split at h
   ·rename_i av bv ha hb;cases hp:zU cv av bv with
    |none=>simp[hp]at h
    |some r=>
     simp only[hp,Option.map_some,aa,ae]at h;obtain⟨_,rfl,rfl⟩:=h;obtain⟨X,Y,Z,e1,e2,e3,e4⟩:=yK hp;obtain⟨c1,c2⟩:=ov hc
     have hraw:raw (bh sl s)=some X:=by
      simp only[bS]at hc;cases hs:bh sl s with
      |und=>simp[hs]at hc
      |ud=>simp[hs]at hc
      |v y=>
       simp only[hs,aa]at hc;subst hc;cases y<;>simp[toBool]at e1<;>subst e1<;>rfl
      |gv k y=>
       simp only[hs]at hc;split at hc<;>simp only[aa,reduceCtorEq]at hc
       subst hc;cases y<;>simp[toBool]at e1<;>subst e1<;>rfl
     have hr:den J r= .bool (if X then Y else Z):=bT e4
     refine pureY (y:=r) ?_ (by cases r<;>simp[toBool]at e4<;>trivial) rfl rfl
     rw[hr];simp only[execOp,c1,bT e1,asBool,Sem.run_bind,Sem.run_pure,Result.andThen_ok];cases X with
     |true=>
      have:=(dv (ch:=(s,true)::ch) hF (by rw[eg];simp[hraw,hg]) ha).1
      simp[this,bT e2]
     |false=>
      have:=(dv (ch:=(s,false)::ch) hF (by rw[eg];simp[hraw,hg]) hb).1
      simp[this,bT e3]
   ·simp at h
   ·simp at h
  ·simp at h
 case box t y=>
  split at h
  ·rename_i v hy;split at h
   ·simp at h
   ·rename_i ht;simp only[aa,ae]at h;obtain⟨_,rfl,rfl⟩:=h;have hn:¬K nid:=by simpa using hfr 0 (by simp)
    refine⟨.inl ⟨_,_,?_,J.aZ nid w.heap.size,fJ.alloc (ty:=t) (ov hy).2 (by simpa using ht) hn,rfl,.inr ⟨Nat.le_refl _,by simp⟩⟩,fun k hk=>by simp at hk;subst hk;simp[aH]⟩
    simp[execOp,Instr.box,(ov hy).1,newVar,newRow,den,Env.aZ,cells]
  ·simp at h
 case alloc t=>
  split at h
  ·rename_i z hz;simp only[aa,ae]at h;obtain⟨_,rfl,rfl⟩:=h;have hn:¬K nid:=by simpa using hfr 0 (by simp)
   obtain⟨i,h1,h2,h3,h4,h5⟩:=hC.z t z hz;refine⟨.inl ⟨_,_,?_,J.aZ nid w.heap.size,fJ.alloc (ty:=t) (de h3) h4 hn,rfl,.inr ⟨Nat.le_refl _,by simp⟩⟩,fun k hk=>by simp at hk;subst hk;simp[aH]⟩
   simp[execOp,Instr.alloc,gU (J:=J) hC.z hz,newVar,newRow,den,Env.aZ,cells]
  ·simp at h
 case makeSlice t y z=>
  split at h
  ·rename_i u v hu hv;obtain⟨rfl,o',e',l',rfl⟩:=Bf h;have hn:¬K nid:=by simpa using hfr 0 (by simp)
   obtain⟨w',ρ',e1,e2⟩:=xS (J:=J) (w:=w) (w0:=w0) (F0:=F0) hC.z h hq hn;refine⟨.inl ⟨_,w',?_,ρ',e2,rfl,.inr ⟨Nat.le_refl _,by simp⟩⟩,fun k hk=>by simp at hk;subst hk;simp[aH]⟩
   simp[execOp,(ov hu).1,(ov hv).1,e1]
  ·simp at h
 case makeInterface t y=>
  split at h
  ·rename_i v d hv hd
   have:∀{x':V} {n':List aI},(∀n,d≠ .interface n)->some (none,V.ic t v,([]:List aI))=some (q,x',n')->x'=x->n'=new->Yields C.P ⟨dst,.makeInterface t y,type,pos,after,guard⟩ a w (kh K J nid x new w0 F0 w)/\∀k,k<new.length->aH new k≠ .yet:=by
    intro x' n' hni hh h1 h2;simp only[aa,ae]at hh;obtain⟨_,rfl,rfl⟩:=hh;refine pureY (y:= .ic t v) ?_ (ov hv).2 h1.symm h2.symm
    cases d<;>first
     |exact absurd rfl (hni _)
     |simp[execOp,(ov hv).1,Instr.makeInterface,aT w hd,den]
   split at h
   ·simp at h
   ·rename_i hni;exact this (fun n e=>hni n e) h rfl rfl
  ·simp at h
 case makeMap t r=>
  split at h
  case h_2=>simp at h
  split at h
  case h_2=>simp at h
  split at h
  case h_3=>simp at h
  case h_2=>
   obtain⟨rfl,hw⟩:=C3 h;have hn:¬K nid:=by rcases hw with rfl|⟨n,rfl⟩<;>simpa using hfr 0 (by simp)
   have hg:fJ K J (J.aZ nid w.heap.size) nid new w0 F0 w (w.alloc (.map #[] 0)):=by
    rcases hw with rfl|⟨n,rfl⟩
    ·exact fJ.yW hn
    ·exact fJ.EZ hn
   have hl:new.length=1/\aH new 0≠ .yet:=by rcases hw with rfl|⟨n,rfl⟩<;>simp[aH]
   refine⟨.inl ⟨_,_,?_,J.aZ nid w.heap.size,hg,rfl,.inr ⟨Nat.le_refl _,by omega⟩⟩,fun k hk=>(show k=0 by omega)▸hl.2⟩
   simp[execOp,show(Instr.makeMap t none).run C.P w= .ok (.map (some w.heap.size)) (w.alloc (.map #[] 0))from rfl,den,Env.aZ]
  all_goals(
   simp only[aa,ae]at h;obtain⟨_,rfl,rfl⟩:=h;have hn:¬K nid:=by simpa using hfr 0 (by simp)
   first
   |refine⟨.inl ⟨_,_,?_,J.aZ nid w.heap.size,fJ.I5 hn,rfl,.inr ⟨Nat.le_refl _,by simp⟩⟩,fun k hk=>by simp at hk;subst hk;simp[aH]⟩
   |refine⟨.inl ⟨_,_,?_,J.aZ nid w.heap.size,fJ.yW hn,rfl,.inr ⟨Nat.le_refl _,by simp⟩⟩,fun k hk=>by simp at hk;subst hk;simp[aH]⟩)
  all_goals simp[execOp,show(Instr.makeMap t none).run C.P w= .ok (.map (some w.heap.size)) (w.alloc (.map #[] 0))from rfl,den,Env.aZ]
 case lookup t m y two=>
  split at h
  case h_2=>simp at h
  rename_i mv xv hm hy;split at h
  ·rename_i r hl;simp only[aa,ae]at h;obtain⟨_,rfl,rfl⟩:=h;obtain⟨e1,e2⟩:=xN hC.z hH hl (ov hy).2;exact pureY (by simp[execOp,(ov hm).1,(ov hy).1,e1]) e2 rfl rfl
  ·split at h
   ·rename_i r hl;simp only[aa,ae]at h;obtain⟨_,rfl,rfl⟩:=h;obtain⟨e1,e2⟩:=yE hC.z hH hl (ov hy).2;exact pureY (by simp[execOp,(ov hm).1,(ov hy).1,e1]) e2 rfl rfl
   ·split at h
    case h_2=>simp at h
    rename_i r hl;simp only[aa,ae]at h;obtain⟨_,rfl,rfl⟩:=h;obtain⟨e1,e2⟩:=yt hC.z hH hl (ov hy).2;exact pureY (by simp[execOp,(ov hm).1,(ov hy).1,e1]) e2 rfl rfl
 case range t y=>
  split at h
  case h_2=>simp at h
  rename_i m hm;obtain⟨w',e1,e2,e3⟩:=BF hH hfr h;refine⟨.inl ⟨_,w',?_,J.aZ nid w.heap.size,e2,rfl,e3⟩,Gt h⟩;simp[execOp,(ov hm).1,e1]
 case entry y=>
  split at h
  case h_2=>simp at h
  rename_i p hp;obtain⟨e1,e2,rfl⟩:=CR (P:=C.P) hH h hq;exact pureY (by simp[execOp,(ov hp).1,e1]) e2 rfl rfl
 case load t y=>
  split at h
  ·rename_i p hp;cases hl:rA C res t p with
   |none=>simp[hl]at h
   |some r=>
    simp only[hl,Option.map_some,aa,ae]at h;obtain⟨rfl,rfl,rfl⟩:=h;obtain⟨e1,e2,_⟩:=mJ hH hl hq (ov hp).2;exact pureY (by simp[execOp,(ov hp).1,e1]) e2 rfl rfl
  ·simp at h
 case fieldAddr t y f=>
  split at h
  ·rename_i p hp;cases hl:KW C.P t p f with
   |none=>simp[hl]at h
   |some r=>
    simp only[hl,Option.map_some,aa,ae]at h;obtain⟨_,rfl,rfl⟩:=h;obtain⟨e1,e2,_⟩:=CH (J:=J) (w:=w) hl (ov hp).2;exact pureY (by simp[execOp,(ov hp).1,e1]) e2 rfl rfl
  ·simp at h
 case field t y f=>
  split at h
  ·rename_i p hp;cases hl:KM C.P t p f with
   |none=>simp[hl]at h
   |some r=>
    simp only[hl,Option.map_some,aa,ae]at h;obtain⟨_,rfl,rfl⟩:=h;obtain⟨e1,e2,_⟩:=D6 (J:=J) (w:=w) hl (ov hp).2;exact pureY (by simp[execOp,(ov hp).1,e1]) e2 rfl rfl
  ·simp at h
 case indexAddr t y i=>
  split at h
  ·rename_i p j hp hj;cases hl:KZ C.P res t p j with
   |none=>simp[hl]at h
   |some r=>
    simp only[hl,Option.map_some,aa,ae]at h;obtain⟨rfl,rfl,rfl⟩:=h;obtain⟨e1,e2,_⟩:=CK hH hl hq (ov hp).2 (ov hj).2;exact pureY (by simp[execOp,(ov hp).1,(ov hj).1,e1]) e2 rfl rfl
  ·simp at h
 case index t y i=>
  split at h
  ·rename_i p j hp hj;cases hl:KH C.P t p j with
   |none=>
    simp only[hl]at h;cases hl2:isStr C.P t p j with
    |none=>simp[hl2]at h
    |some r=>
     simp only[hl2,Option.map_some,aa,ae]at h;obtain⟨rfl,rfl,rfl⟩:=h;obtain⟨e1,e2⟩:=yD (J:=J) (w:=w) hl2 hq (ov hj).2;exact pureY (by simp[execOp,(ov hp).1,(ov hj).1,e1]) e2 rfl rfl
   |some r=>
    simp only[hl,aa,ae]at h;obtain⟨rfl,rfl,rfl⟩:=h;obtain⟨e1,e2,_⟩:=DI (J:=J) (w:=w) hl hq (ov hp).2 (ov hj).2;exact pureY (by simp[execOp,(ov hp).1,(ov hj).1,e1]) e2 rfl rfl
  ·simp at h
 case slice t y lo hi mx=>
  have fin:∀(p:V) (l' h':Option V),bS sl ch y=some p->lo.map a.eval=l'.map (den J)->hi.map a.eval=h'.map (den J)->mx=none->(∀v,l'=some v->ok K v)->(∀v,h'=some v->ok K v)->
    ((GQ C.P res t p l' h').map fun r=>(r.1,r.2,([]:List aI)))=some (q,x,new)->Yields C.P ⟨dst,.slice t y lo hi mx,type,pos,after,guard⟩ a w (kh K J nid x new w0 F0 w)/\∀k,k<new.length->aH new k≠ .yet:=by
   intro p l' h' hp hl1 hh1 hmx hl2 hh2 hs;cases hl:GQ C.P res t p l' h' with
   |none=>simp[hl]at hs
   |some r=>
    simp only[hl,Option.map_some,aa,ae]at hs;obtain⟨rfl,rfl,rfl⟩:=hs;obtain⟨e1,e2⟩:=Ej hH hl hq (ov hp).2 hl2 hh2;subst hmx;refine pureY ?_ e2 rfl rfl;simp only[execOp,(ov hp).1,hl1,hh1,Option.map_none];rw[Sem.run_bind,e1];rfl
  split at h
  ·rename_i p hp h1 h2;have e1:lo=none:=by cases lo<;>simp_all
   have e2:hi=none:=by cases hi<;>simp_all
   subst e1;subst e2;exact fin p none none hp rfl rfl rfl (by simp) (by simp) h
  ·rename_i p u hp h1 h2;obtain⟨lo',rfl,hu⟩:=Option.map_eq_some_iff.1 h1;have e2:hi=none:=by cases hi<;>simp_all
   subst e2;exact fin p (some u) none hp (by simp[(ov hu).1]) rfl rfl (fun v hv=>by simp only[aa]at hv;subst hv;exact(ov hu).2) (by simp) h
  ·rename_i p u hp h1 h2;obtain⟨hi',rfl,hu⟩:=Option.map_eq_some_iff.1 h2;have e2:lo=none:=by cases lo<;>simp_all
   subst e2;exact fin p none (some u) hp rfl (by simp[(ov hu).1]) rfl (by simp) (fun v hv=>by simp only[aa]at hv;subst hv;exact(ov hu).2) h
  ·rename_i p u v hp h1 h2;obtain⟨lo',rfl,hu⟩:=Option.map_eq_some_iff.1 h1;obtain⟨hi',rfl,hv⟩:=Option.map_eq_some_iff.1 h2;exact fin p (some u) (some v) hp (by simp[(ov hu).1]) (by simp[(ov hv).1]) rfl (fun z hz=>by simp only[aa]at hz;subst hz;exact(ov hu).2) (fun z hz=>by simp only[aa]at hz;subst hz;exact(ov hv).2) h
  ·simp at h
 case nilCheck y=>
  split at h<;>simp only[aa,ae,reduceCtorEq]at h<;>rename_i hy<;>obtain⟨_,rfl,rfl⟩:=h<;>obtain⟨e1,e2⟩:=ov hy<;>
   exact pureY (by first| (simp[execOp,e1,den];done)| (simp only[den]at e1⊢;generalize hv:xy _ _=v at e1⊢;obtain⟨_,_,_,rfl⟩:∃g b c,v= .func (.func g) b c:=hv▸DV _ _;simp[execOp,e1])) e2 rfl rfl
 case binOp op t y z t'=>
  split at h
  ·rename_i p j hp hj;cases hl:Fw C.P op t p j with
   |none=>
    simp only[hl]at h;cases hl2:EV op p j with
    |none=>simp[hl2]at h
    |some r=>
     simp only[hl2,Option.map_some,aa,ae]at h;obtain⟨rfl,rfl,rfl⟩:=h;obtain⟨e1,e2⟩:=Bi (P:=C.P) (J:=J) (K:=K) (t:=t) w y z hl2 hq;exact pureY (by simp only[execOp,(ov hp).1,(ov hj).1];rw[Sem.run_bind,e1];rfl) e2 rfl rfl
   |some r=>
    simp only[hl,aa,ae]at h;obtain⟨rfl,rfl,rfl⟩:=h;obtain⟨e1,e2⟩:=Ab (J:=J) (K:=K) w y z hl hq (ov hp).2 (ov hj).2;exact pureY (by simp only[execOp,(ov hp).1,(ov hj).1];rw[Sem.run_bind,e1];rfl) e2 rfl rfl
  ·simp at h
 case unOp op t y=>
  cases op<;>simp only[reduceCtorEq]at h
  ·split at h
   ·rename_i v hy;split at h
    ·rename_i k n hn;obtain⟨e1,e2⟩:=bB (J:=J) hn (ov hy).2;split at h
     ·split at h<;>simp only[aa,ae,reduceCtorEq]at h
      rename_i hin;obtain⟨_,rfl,rfl⟩:=h;refine pureY (y:= .ci k (0-n)) ?_ hin rfl rfl;simp only[execOp,(ov hy).1,e1,Op.unary,Op.intArith,Sem.run_bind,Sem.run_pure,Result.andThen_ok,fz hin,den]
     ·simp only[aa,ae]at h;obtain⟨rfl,rfl,rfl⟩:=h;refine pureY (y:= .it k (sK 0 n)) ?_ hq rfl rfl;simp only[execOp,(ov hy).1,e1,Op.unary,Op.intArith,Sem.run_bind,Sem.run_pure,Result.andThen_ok,fz (show bU k (0-n)from hq),den,sK]
    ·simp at h
   ·simp at h
  ·split at h
   ·rename_i v hy;split at h<;>simp only[aa,ae,reduceCtorEq]at h
    rename_i b hb;obtain⟨_,rfl,rfl⟩:=h;have hnb:=Aw hb;refine pureY (y:=Et v b) ?_ (by generalize Et v b=z at hnb;cases z<;>simp[toBool]at hnb<;>trivial) rfl rfl
    rw[bT hnb];simp only[execOp,(ov hy).1,bT hb,Op.unary,Sem.run_bind,Sem.run_pure,Result.andThen_ok]
   ·simp at h
 case convert s d y=>
  split at h
  ·rename_i p hp;cases hl:KX C.P s d p with
   |none=>
    simp only[hl]at h;cases hl2:KO C.P res s d p with
    |none=>simp[hl2]at h
    |some r=>
     simp only[hl2,Option.map_some,aa,ae]at h;obtain⟨rfl,rfl,rfl⟩:=h;obtain⟨e1,e2⟩:=B7 (J:=J) (w:=w) hH hl2 hq (ov hp).2;exact pureY (by simp[execOp,(ov hp).1,e1]) e2 rfl rfl
   |some r=>
    simp only[hl,aa,ae]at h;obtain⟨rfl,rfl,rfl⟩:=h;obtain⟨e1,e2,_⟩:=DZ (J:=J) (w:=w) hl hq (ov hp).2;exact pureY (by simp[execOp,(ov hp).1,e1]) e2 rfl rfl
  ·simp at h
 case extract y i=>
  split at h
  ·rename_i l hy;cases hl:l[i]? with
   |none=>simp[hl]at h
   |some v=>
    simp only[hl,Option.map_some,aa,ae]at h;obtain⟨_,rfl,rfl⟩:=h;obtain⟨e1,e2⟩:=ov hy;have:(aV J l)[i]? =some (den J v):=by rw[dY];simp[hl]
    refine pureY (y:=v) ?_ ((dZ _).1 e2 v (List.mem_of_getElem? hl)) rfl rfl;simp[execOp,e1,den,Instr.extract,this]
  ·simp at h
 case makeFunc fn first caps=>
  cases fn<;>simp only[reduceCtorEq]at h
  rename_i f;split at h
  ·rename_i he;split at h
   case isFalse=>simp at h
   rename_i hlo;cases hl:gz sl ch caps.toList with
   |none=>simp[hl]at h
   |some l=>
    simp only[hl,Option.map_some,aa,ae]at h;obtain⟨_,rfl,rfl⟩:=h;obtain⟨e1,e2⟩:=di hF hg hl;have hf:first= #[]:=by simpa using he
    subst hf;refine pureY (y:= .fn f l) ?_ e2 rfl rfl;have:caps.map a.eval=(aV J l).toArray:=by apply Array.ext';simp[e1]
    simp[execOp,Instr.makeFunc,den,r9 hlo,this]
  ·split at h
   case isFalse=>simp at h
   rename_i he;cases hl:gz sl ch first.toList with
   |none=>simp[hl]at h
   |some l=>
    simp only[hl,Option.map_some,aa,ae]at h;obtain⟨_,rfl,rfl⟩:=h;obtain⟨e1,e2⟩:=di hF hg hl;have hf:caps= #[]:=by simpa using he
    subst hf;refine pureY (y:= .fn (f+2000) l) ?_ e2 rfl rfl;have:first.map a.eval=(aV J l).toArray:=by apply Array.ext';simp[e1]
    have hb:Nat.blt (f+2000) 2000=false:=by rw[Bool.eq_false_iff];intro h;have:=Nat.le_of_ble_eq_true h;omega
    simp[execOp,Instr.makeFunc,den,xy,hb,this]
 case build t ps=>
  split at h
  ·rename_i l hl;obtain⟨e1,e2⟩:=nS hF hg hl;cases hb:uB C t l with
   |none=>simp[hb]at h
   |some r=>
    simp only[hb,Option.map_some,aa,ae]at h;obtain⟨_,rfl,rfl⟩:=h;obtain⟨f1,f2,_⟩:=wT (J:=J) (w:=w) hC.z hb e2;refine pureY (y:=r) ?_ f2 rfl rfl;have:(ps.map fun p=>(p.1,a.eval p.2))=(l.map fun p=>(p.1,den J p.2)).toArray:=by apply Array.ext';simp[e1]
    simp only[execOp];rw[show(ps.map fun(i,x)=>(i,a.eval x))=(l.map fun p=>(p.1,den J p.2)).toArray from this,Sem.run_bind,f1]
    rfl
  ·simp at h
 case buildSlice t n ps=>
  split at h
  ·rename_i l hl;obtain⟨e1,e2⟩:=nS hF hg hl;cases hb:J2 C t n l nid with
   |none=>simp[hb]at h
   |some r=>
    obtain⟨r,new'⟩:=r;simp only[hb,Option.map_some,aa,ae]at h;obtain⟨_,rfl,rfl⟩:=h
    have hn:¬K nid:=by
     unfold J2 at hb;split at hb
     ·split at hb
      ·simp at hb
      ·split at hb
       ·split at hb<;>simp only[aa,ae,reduceCtorEq]at hb
        obtain⟨rfl,rfl⟩:=hb;simpa using hfr 0 (by simp)
       ·simp at hb
     ·simp at hb
    obtain⟨w',ρ',f1,f2,f3,f4⟩:=Db (J:=J) (w:=w) (w0:=w0) (F0:=F0) hC.z hb e2 hn;refine⟨.inl ⟨_,w',?_,ρ',f2,rfl,f3⟩,f4⟩;have:(ps.map fun p=>(p.1,a.eval p.2))=(l.map fun p=>(p.1,den J p.2)).toArray:=by apply Array.ext';simp[e1]
    simp only[execOp];rw[show(ps.map fun(i,x)=>(i,a.eval x))=(l.map fun p=>(p.1,den J p.2)).toArray from this,Sem.run_bind,f1]
    rfl
  ·simp at h
 case call c=>
  obtain⟨callee,args,argTypes⟩:=c;cases callee with
  |invoke r m=>simp at h
  |value f=>
   simp only at h;split at h
   ·rename_i fv vs hf has;obtain⟨e1,e2⟩:=ov hf;obtain⟨e3,e4⟩:=di hF hg has;unfold G3 at h;split at h
    ·rename_i g caps;split at h
     ·rename_i ct hct;split at h
      case isFalse=>simp at h
      rename_i hlo;split at h
      ·rename_i hcall;have e2':cm K caps:=e2;obtain⟨h1,h2⟩:=hC.ct g ct hct J fps res K w0 F0 w nid (vs++caps) q x new hH (by rw[dZ]at e4 e2'⊢;intro z hz;rcases List.mem_append.1 hz with hz|hz;exact e4 z hz;exact e2' z hz) h hq hfr
       refine⟨.inr ⟨g,(aV J (vs++caps)).toArray,?_,h1⟩,h2⟩;unfold eo at hcall;split at hcall
       ·rename_i fn hfn;simp only[ah,bne_iff_ne,ne_eq]at hcall;have hnm:(fn.name== "runtime.NumGoroutine")=false:=by simpa using hcall.1
        have hbd:fn.body.isNone=false:=by
         simp_all
        have ha:args.map a.eval=(aV J vs).toArray:=by apply Array.ext';simp[e3]
        have hcat:(aV J vs).toArray++(aV J caps).toArray=(aV J (vs++caps)).toArray:=by simp[dY]
        simp only[execOp,resolve,e1,den,r9 hlo,Deferred.ofValue,ha,Sem.run_bind,Sem.run_pure,Result.andThen_ok,invoke,callFunc,run_program,hfn,hnm,Bool.false_eq_true,if_false,hbd,
         Array.empty_append,hcat]
       ·simp at hcall
      ·simp at h
     ·simp at h
    ·simp at h
   ·simp at h
  |builtin b=>
   simp only at h;split at h
   ·rename_i vs has;obtain⟨e3,e4⟩:=di hF hg has;have ha:args.map a.eval=(aV J vs).toArray:=by apply Array.ext';simp[e3]
    split at h
    ·obtain⟨rfl,o',e',l',rfl⟩:=Cf h;have hn:¬K nid:=by simpa using hfr 0 (by simp)
     obtain⟨w',ρ',d1,d2⟩:=A3 (ty:=type) hC.z hH h hq hn;refine⟨.inl ⟨_,w',?_,ρ',d2,rfl,.inr ⟨Nat.le_refl _,by simp⟩⟩,fun k hk=>by simp at hk;subst hk;simp[aH]⟩
     have d1':(Builtin.append_ argTypes type (aV J vs).toArray).run C.P w= .ok (den ρ' (.sa nid)) w':=by simpa using d1
     simp only[execOp,resolve,Sem.run_bind,Sem.run_pure,Result.andThen_ok,invoke,builtin,ha];rw[d1'];rfl
    rename_i hnb;clear hnb;cases hb:qK C res b argTypes.toList vs with
    |none=>simp[hb]at h
    |some r=>
     simp only[hb,Option.map_some,aa,ae]at h;obtain⟨rfl,rfl,rfl⟩:=h;unfold qK at hb;split at hb
     ·rename_i t ts y hts;have hty:argTypes=(t::ts).toArray:=by rw[<-hts]
      obtain⟨f1,f2⟩:=AE hH hb hq ts type;refine pureY (y:=r.2) ?_ f2 rfl rfl;simp only[execOp,resolve,Sem.run_bind,Sem.run_pure,Result.andThen_ok,invoke,builtin,ha,aV,hty];rw[f1];rfl
     ·rename_i y z;cases hm:IP y z with
      |none=>simp[hm]at hb
      |some m=>
       simp only[hm,Option.map_some,aa]at hb;subst hb;unfold IP at hm;split at hm
       ·rename_i k a1 k' b1 h1 h2;split at hm<;>simp only[aa,reduceCtorEq]at hm
        rename_i hk;have hk:=aj.1 hk;subst hk;subst hm;obtain⟨g1,g2⟩:=bB (J:=J) h1 e4.1;obtain⟨g3,g4⟩:=bB (J:=J) h2 e4.2.1;refine pureY (y:= .it k (DM a1 b1)) ?_ (show bU k (DM a1 b1) by unfold DM;split<;>assumption) rfl rfl
        simp[den,execOp,resolve,invoke,builtin,ha,aV,g1,g3,Builtin.min_,Builtin.min2,DM]
       ·simp at hm
     ·rename_i y z;cases hm:Hg y z with
      |none=>simp[hm]at hb
      |some m=>
       simp only[hm,Option.map_some,aa]at hb;subst hb;unfold Hg at hm;split at hm
       ·rename_i k a1 k' b1 h1 h2;split at hm<;>simp only[aa,reduceCtorEq]at hm
        rename_i hk;have hk:=aj.1 hk;subst hk;subst hm;obtain⟨g1,g2⟩:=bB (J:=J) h1 e4.1;obtain⟨g3,g4⟩:=bB (J:=J) h2 e4.2.1;refine pureY (y:= .it k (imax a1 b1)) ?_ (show bU k (imax a1 b1) by unfold imax;split<;>assumption) rfl rfl
        simp[den,execOp,resolve,invoke,builtin,ha,aV,g1,g3,Builtin.max_,Builtin.max2,imax]
       ·simp at hm
     ·simp at hb
   ·simp at h
end
end Go.Sx
namespace Go.Sx
open Go.RowKit (Below)
def ba:List Nat->List aI->List aI
 | [],l=>l
 |t::ts,l=>ba ts (bd l t .gone)
theorem a8(l:List aI)(i:Nat)(r:aI):(bd l i r).length=l.length:=by rw[lS];simp
theorem eR:∀(ts:List Nat) (l:List aI),(ba ts l).length=l.length
 | [],_=>rfl
 |t::ts,l=>by simp only[ba];rw[eR ts,a8]
theorem mP:∀(ts:List Nat) (l:List aI) (i:Nat),(∀t∈ts,t<l.length)->aH (ba ts l) i=if i∈ts then .gone else aH l i
 | [],l,i,_=>by simp[ba]
 |t::ts,l,i,h=>by
  simp only[ba];rw[mP ts _ i fun u hu=>by rw[a8];exact h u (by simp[hu]),aY _ _ _ _ (h t (by simp))]
  by_cases e:i∈ts
  ·simp[e]
  ·by_cases e':i=t
   ·simp[e']
   ·simp[e,e']
theorem aQ.lA{J ρ':Env}{fps:Nat->Nat->Prop}{res:List aI}{w0:World}{F0:Nat->Prop}{w w':World}(h:aQ J fps res (known res) w0 F0 w)(ts:List Nat)(r:aI)(ms:List aI)(fp:Nat->Prop)
  (hms:∀m∈ms,∃j,m= .gen j) (hts:∀t∈ts,known res t) (hr:r≠ .yet) (hag:Env.agree (known res) J ρ')
  (hh:r.holds (known (ba ts res++r::ms)) ρ' res.length fp w0 F0 w') (hfp:∀b,fp b->(∃t∈ts,fps t b)\/(w.heap.size<=b/\b<w'.heap.size))
  (hos:w'.os=w.os) (htape:w'.tape=w.tape) (hout:w'.output=w.output) (hsize:w.heap.size<=w'.heap.size)
  (hsame:∀b,b<w.heap.size->(∀t∈ts,¬fps t b)->w'.heap[b]? =w.heap[b]?):
  ∃fps',aQ ρ' fps' (ba ts res++r::ms) (known (ba ts res++r::ms)) w0 F0 w'/\Env.agree (known res) J ρ'/\(∀i,known res i->known (ba ts res++r::ms) i)/\known (ba ts res++r::ms) res.length:=by
 have hlt:∀t∈ts,t<res.length:=fun t ht=>aK (hts t ht)
 have hget:∀i,aH (ba ts res++r::ms) i=if i<res.length then(if i∈ts then .gone else aH res i)else if i=res.length then r else aH ms (i-res.length-1):=by
  intro i;rw[bc,eR];by_cases hi:i<res.length
  ·rw[au hi,au hi,mP ts res i hlt]
  ·rw[ar hi,ar hi];by_cases e:i=res.length
   ·subst e;simp[aH]
   ·rw[ar e];have:∃k,i-res.length=k+1:=⟨i-res.length-1,by omega⟩
    obtain⟨k,hk⟩:=this;rw[hk];simp[aH]
 have hmget:∀k,aH ms k= .yet\/∃j,aH ms k= .gen j:=fun k=>by
  rw[gB,aq];cases hm:ms[k]? with
  |none=>exact .inl rfl
  |some m=>
   obtain⟨j,rfl⟩:=hms m (List.mem_of_getElem? hm);exact .inr ⟨j,rfl⟩
 have hmono:∀i,known res i->known (ba ts res++r::ms) i:=fun i hi=>by
  grind[known,aK]
 have hnew:known (ba ts res++r::ms) res.length:=by
  simp_all[known]
 obtain⟨fps',g⟩:=h.turn (res':=ba ts res++r::ms) (K':=known (ba ts res++r::ms)) (fun i=>i∈ts) (fun i=>i∈ts\/res.length<=i) (fun i b=>i=res.length/\fp b)
  (fun i hi=>hi) hmono hag (fun i hi hb=>by
   have hi':=hi;unfold known at hi';rw[hget]at hi';have h1:i∉ts:=fun e=>hb (.inl e)
   have hl:i<res.length:=by
    rcases Nat.lt_or_ge i res.length with h|h
    ·exact h
    ·exact absurd (.inr h) hb
   rw[au hl,ar h1]at hi';exact⟨hi',h1,by rw[hget,au hl,ar h1]⟩)
  (fun i hi hb=>by
   by_cases e:i=res.length
   ·subst e;refine⟨?_,fun b hf=>?_⟩
    ·rw[hget,ar (by omega),au rfl]
     have:(fun b=>res.length=res.length/\fp b)=fp:=by funext b;simp
     rw[this];exact hh
    ·rcases hfp b hf.2 with⟨t,ht,hft⟩|hn
     ·exact .inl ⟨t,ht,hts t ht,hft⟩
     ·exact .inr hn
   ·refine⟨?_,fun b hf=>absurd hf.1 e⟩
    rw[hget];by_cases hl:i<res.length
    ·rw[au hl,au (hb.resolve_right (by omega))]
     trivial
    ·rw[ar hl,ar e];rcases hmget (i-res.length-1)with h|⟨j,h⟩<;>rw[h]<;>trivial)
  (fun i j b _ _ hne hf hf'=>hne (hf.1.trans hf'.1.symm))
  hos htape hout hsize (fun b hb hno=>hsame b hb fun t ht=>hno t ht (hts t ht))
 exact⟨fps',g,hag,hmono,hnew⟩
def cV(n b:Nat):Prop:=n+1<=maxLen/\(n+1)*b<=140737488355328
mutual
def KK:V->Bool
 | .cb _| .bo _| .ci _ _| .it _ _| .bt _| .st _| .key _| .sl _| .by _| .ob _=>true
 | .ag l=>Jj l
 |_=>false
def Jj:List V->Bool
 | []=>true
 |x::l=>KK x&&Jj l
end
mutual
theorem xG{K K':Nat->Prop}:∀v,KK v=true->ok K v->ok K' v
 | .ag l,h,hk=>⟨B9 l (by simpa only[KK]using h) hk.1,hk.2⟩
 | .cb _,_,h| .bo _,_,h| .ci _ _,_,h| .it _ _,_,h| .bt _,_,h| .st _,_,h| .key _,_,h| .sl _,_,h| .by _,_,h| .ob _,_,h=>h
 | .nl _,h,_| .lp _ _,h,_| .lx _ _ _ _ _ _,h,_| .sc _ _ _,h,_| .so _ _,h,_| .ap _ _ _ _,h,_| .sa _,h,_| .op _ _,h,_| .yl _,h,_| .fn _ _,h,_| .ic _ _,h,_| .tp _,h,_| .mp _,h,_
 | .ch _ _ _ _,h,_| .ax _ _ _ _ _ _ _ _,h,_| .bs _ _ _,h,_| .ks _ _ _ _ _,h,_| .vw _ _ _ _,h,_=>by simp[KK]at h
theorem B9{K K':Nat->Prop}:∀l,Jj l=true->cm K l->cm K' l
 | [],_,_=>trivial
 |x::l,h,hk=>by
  simp only[Jj,ah]at h;exact⟨xG x h.1 hk.1,B9 l h.2 hk.2⟩
end
def tE(n:Nat)(g:Nat->V)(v:V)(i:Nat):V:=match Nat.beq i n with
 |true=>v
 |false=>g i
def ze(l:TL)(v:V):Option TL:=
 match l with
 | .ob l=>match v with
   | .ob o=>some (.ob (bN l o))
   |_=>none
 | .key l=>match v with
   | .key k=>some (.key (bN l k))
   |_=>none
 | .it k l=>match toInt v with
   |some (k',n)=>if k==k' then some (.it k (bN l n))else none
   |none=>none
 | .bo l=>match toBool v with
   |some b=>some (.bo (bN l b))
   |none=>none
 | .st l=>match v with
   | .st s=>some (.st (bN l s))
   |_=>none
 | .fn n g=>match v with
   | .ag a=>if Jj a then some (.fn (n+1) (tE n g (.ag a)))else none
   |_=>none
 | .qs n l=>match v with
   | .ag a=>match fm a with
     |some x=>if x.length==n then some (.qs n (bN l (bj x)))else none
     |none=>none
   |_=>none
def zo(v:V):Option TL:=
 match v with
 | .ag a=>match fm a with
   |some x=>some (.qs x.length [bj x])
   |none=>if Jj a then some (.fn 1 fun _=> .ag a)else none
 | .ob o=>some (.ob [o])
 | .key k=>some (.key [k])
 | .st s=>some (.st [s])
 |_=>match toInt v with
  |some (k,n)=>some (.it k [n])
  |none=>match toBool v with
   |some b=>some (.bo [b])
   |none=>none
def ra(K:Nat->Prop)(n:Nat)(g:Nat->V)(v:V)(l':TL):Prop:=
 l'.len=n+1/\(∀i,i<n->l'.get i=g i)/\(∀J,cells J (l'.get n)=cells J v)/\(ok K v->ok (fun _=>False) (l'.get n))/\bp (l'.get n)=false/\bP (l'.get n)=bP v
theorem kD{α:Type}(l:List α)(x d:α):(∀i,i<l.length->aX (bN l x) i d=aX l i d)/\aX (bN l x) l.length d=x:=by
 grind[aX,bN]
theorem GF{K:Nat->Prop}{Q:List (List Int)}{j:Nat}:∀(m c:Nat),(∀c,bU .i64 (cr Q j c))->cm K (qL Q j c m)/\oE (qL Q j c m)/\ko (qL Q j c m)=m/\∀J,aR J (qL Q j c m)=(List.range m).map fun y=>i64 (cr Q j (c+y))
 |0,c,_=>⟨trivial,trivial,rfl,fun J=>rfl⟩
 |m+1,c,h=>by
  obtain⟨a,b,b',d⟩:=GF (K:=K) m (c+1) h;refine⟨⟨h c,a⟩,⟨trivial,b⟩,by simp only[qL,ko,b',bP];omega,fun J=>?_⟩
  have e:aR J (qL Q j c (m+1))=i64 (cr Q j c)::aR J (qL Q j (c+1) m):=rfl;rw[e,d,List.range_succ_eq_map,List.map_cons,List.map_map];show i64 (cr Q j c)::_=i64 (cr Q j c)::_
  congr 1
  refine List.map_congr_left fun y _=>?_
  simp only[Function.comp,Nat.add_assoc,Nat.succ_eq_add_one,Nat.add_comm 1 y]
theorem pk{Q:List (List Int)}{j:Nat}(J:Env):∀(m c:Nat),aR J (qL Q j c m)=(List.range m).map fun y=>i64 (cr Q j (c+y))
 |0,c=>rfl
 |m+1,c=>by
  have e:aR J (qL Q j c (m+1))=i64 (cr Q j c)::aR J (qL Q j (c+1) m):=rfl;rw[e,pk J m (c+1),List.range_succ_eq_map,List.map_cons,List.map_map];show i64 (cr Q j c)::_=i64 (cr Q j c)::_
  congr 1
  refine List.map_congr_left fun y _=>?_
  simp only[Function.comp,Nat.add_assoc,Nat.succ_eq_add_one,Nat.add_comm 1 y]
theorem re{Q Q':List (List Int)}{j j':Nat}(h:∀c,cr Q j c=cr Q' j' c):∀(m c:Nat),qL Q j c m=qL Q' j' c m
 |0,c=>rfl
 |m+1,c=>by simp only[qL,h c,re h m (c+1)]
theorem yv{Q:List (List Int)}{j:Nat}:∀(m c:Nat),ko (qL Q j c m)=m
 |0,c=>rfl
 |m+1,c=>by simp only[qL,ko,yv m (c+1),bP];omega
theorem kx{J:Env}:∀{xl:List V} {l:List (Bool×Int)},fm xl=some l->aR J xl=(bj l).map i64/\(bj l).length=l.length/\ko xl=l.length
 | [],l,h=>by simp only[fm,aa]at h;subst h;exact⟨rfl,rfl,rfl⟩
 |x::xl,l,h=>by
  simp only[fm]at h;split at h
  case h_2=>simp at h
  rename_i k n hn;split at h
  case isFalse=>simp at h
  rename_i hk;have hk:=aj.1 hk;subst hk;split at h
  case h_2=>simp at h
  rename_i m hm;simp only[aa]at h;subst h;obtain⟨a,b,c⟩:=kx (J:=J) hm;obtain⟨c1,c2,c3⟩:=gg (K:=fun _=>True) hn
  have e:(den J x).cells.toList= [i64 n]:=(c1 J).symm;refine⟨by simp only[aR,e,a,bj];rfl,by simp[bj,b],by simp only[ko,c,<-c3,bP,List.length_cons];omega⟩
theorem wq{K:Nat->Prop}{l:List (List Int)}{n:Nat}{a:List V}{x:List (Bool×Int)}(hx:fm a=some x)(hn:x.length=n):ra K l.length (TL.qs n l).get (.ag a) (.qs n (bN l (bj x))):=by
 have h1:∀i,i<l.length->∀c,cr (bN l (bj x)) i c=cr l i c:=fun i hi c=>by
  have e:(l++ [bj x]).getD i []=l.getD i []:=by rw[aq,List.getElem?_append_left hi,<-aq]
  unfold cr bN;rw[e]
 have h2:∀c,cr (bN l (bj x)) l.length c=(bj x).getD c 0:=fun c=>by
  have e:(l++ [bj x]).getD l.length []=bj x:=by rw[aq,List.getElem?_append_right (Nat.le_refl _),Nat.sub_self];rfl
  unfold cr bN;rw[e]
 have hl:(TL.qs n l).len=l.length:=rfl;refine⟨by simp[TL.len,aN,bN],fun i hi=>?_,fun J=>?_,fun hk=>?_,rfl,?_⟩
 ·show V.ag (qL (bN l (bj x)) i 0 n)=V.ag (qL l i 0 n)
  rw[re (h1 i hi)]
 ·obtain⟨b,c,_⟩:=kx (J:=J) hx;show cells J (.ag (qL (bN l (bj x)) l.length 0 n))=cells J (.ag a)
  rw[bI,bI,b,pk];apply List.ext_getElem (by simp[c,hn])
  intro y y1 y2;have hy:y<(bj x).length:=by simpa using y2
  simp only[List.getElem_map,List.getElem_range,Nat.zero_add,h2];rw[aq,List.getElem?_eq_getElem hy];rfl
 ·have hin:=oi hx hk.1
  have:∀c,bU .i64 (cr (bN l (bj x)) l.length c):=fun c=>by
   rw[h2,aq];cases hc:(bj x)[c]? with
   |none=>simp[bU]
   |some y=>exact hin y (List.mem_of_getElem? hc)
  obtain⟨o1,o2,_⟩:=GF (K:=fun _=>False) (Q:=bN l (bj x)) (j:=l.length) n 0 this
  exact⟨o1,o2⟩
 ·obtain⟨_,_,c⟩:=kx (J:=Env.zero) hx;show ko (qL (bN l (bj x)) l.length 0 n)=ko a
  rw[yv,c,hn]
theorem x9{K:Nat->Prop}{l l':TL}{v:V}(h:ze l v=some l'):ra K l.len l.get v l':=by
 unfold ze at h;cases l with
 |fn n g=>
  cases v<;>simp only[reduceCtorEq]at h
  rename_i a;split at h<;>simp only[aa,reduceCtorEq]at h
  rename_i hc;subst h;have e:(TL.fn (n+1) (tE n g (.ag a))).get n= .ag a:=by show tE n g (.ag a) n=_;have hb:Nat.beq n n=true:=(by simp);unfold tE;rw[hb]
  refine⟨rfl,fun i hi=>?_,fun J=>?_,fun hk=>?_,?_,?_⟩
  ·show tE n g (.ag a) i=g i
   have hi:i<n:=hi
   have:Nat.beq i n=false:=by cases hb:Nat.beq i n with
    |false=>rfl
    |true=>have:=Nat.eq_of_beq_eq_true hb;omega
   unfold tE;rw[this]
  all_goals simp only[TL.len,e]
  ·exact xG (.ag a) hc hk
  ·rfl
 |ob l=>
  cases v<;>simp only[aa,reduceCtorEq]at h
  subst h;rename_i o;obtain⟨a,b⟩:=kD l o free;exact⟨by simp[TL.len,aN,bN],fun i hi=>congrArg V.ob (a i hi),fun J=>by simp only[TL.get,TL.len,aN,b],fun hk=>by simp only[TL.get,TL.len,aN,b];exact hk,rfl,rfl⟩
 |key l=>
  cases v<;>simp only[aa,reduceCtorEq]at h
  subst h;rename_i o;obtain⟨a,b⟩:=kD l o void;exact⟨by simp[TL.len,aN,bN],fun i hi=>congrArg V.key (a i hi),fun J=>by simp only[TL.get,TL.len,aN,b],fun hk=>by simp only[TL.get,TL.len,aN,b];exact hk,rfl,rfl⟩
 |it k l=>
  simp only at h;split at h
  ·rename_i k' n hn;split at h<;>simp only[aa,reduceCtorEq]at h
   rename_i hk;have hk:=aj.1 hk;subst hk;subst h;obtain⟨a,b⟩:=kD l n 0;obtain⟨c1,c2,c3⟩:=gg (K:=K) hn;exact⟨by simp[TL.len,aN,bN],fun i hi=>congrArg (V.it k) (a i hi),fun J=>by simp only[TL.get,TL.len,aN,b];exact c1 J,fun hk=>by simp only[TL.get,TL.len,aN,b];exact c2 hk,rfl,c3⟩
  ·simp at h
 |bo l=>
  simp only at h;split at h<;>simp only[aa,reduceCtorEq]at h
  rename_i b hb;subst h;obtain⟨a,b'⟩:=kD l b false;obtain⟨c1,c3⟩:=gF hb;exact⟨by simp[TL.len,aN,bN],fun i hi=>congrArg V.bo (a i hi),fun J=>by simp only[TL.get,TL.len,aN,b'];exact c1 J,fun _=>trivial,rfl,c3⟩
 |qs n l=>
  cases v<;>simp only[reduceCtorEq]at h
  rename_i a;split at h
  case h_2=>simp at h
  rename_i x hx;split at h<;>simp only[aa,reduceCtorEq]at h
  rename_i hn;subst h;exact wq hx (aj.1 hn)
 |st l=>
  cases v<;>simp only[aa,reduceCtorEq]at h
  subst h;rename_i o;obtain⟨a,b⟩:=kD l o ByteArray.empty;exact⟨by simp[TL.len,aN,bN],fun i hi=>congrArg V.st (a i hi),fun J=>by simp only[TL.get,TL.len,aN,b],fun hk=>by simp only[TL.get,TL.len,aN,b];exact hk,rfl,rfl⟩
theorem yA{K:Nat->Prop}{l':TL}{v:V}(h:zo v=some l')(g:Nat->V):ra K 0 g v l':=by
 unfold zo at h;split at h
 ·split at h
  ·rename_i a x hx;simp only[aa]at h;subst h;have:=wq (K:=K) (l:= []) hx rfl;exact⟨this.1,fun i hi=>by omega,this.2.2⟩
  split at h<;>simp only[aa,reduceCtorEq]at h
  rename_i a _ _ hc;subst h;exact⟨rfl,fun i hi=>by omega,fun J=>rfl,fun h=>xG (.ag a) hc h,rfl,rfl⟩
 ·simp only[aa]at h;subst h;exact⟨rfl,fun i hi=>by omega,fun J=>rfl,fun h=>h,rfl,rfl⟩
 ·simp only[aa]at h;subst h;exact⟨rfl,fun i hi=>by omega,fun J=>rfl,fun h=>h,rfl,rfl⟩
 ·simp only[aa]at h;subst h;exact⟨rfl,fun i hi=>by omega,fun J=>rfl,fun h=>h,rfl,rfl⟩
 ·split at h
  ·rename_i k n hn;simp only[aa]at h;subst h;obtain⟨c1,c2,c3⟩:=gg (K:=K) hn;exact⟨rfl,fun i hi=>by omega,fun J=>c1 J,fun h=>c2 h,rfl,c3⟩
  ·split at h<;>simp only[aa,reduceCtorEq]at h
   rename_i b hb;subst h;obtain⟨c1,c3⟩:=gF hb;exact⟨rfl,fun i hi=>by omega,fun J=>c1 J,fun _=>trivial,rfl,c3⟩
theorem ra.cells{K:Nat->Prop}{n:Nat}{g:Nat->V}{v:V}{l':TL}(h:ra K n g v l'):l'.cells=((List.range n).flatMap fun j=>Sx.cells Env.zero (g j))++Sx.cells Env.zero v:=by
 obtain⟨h1,h2,h3,_⟩:=h;unfold TL.cells;rw[h1,List.range_succ,List.flatMap_append];congr 1
 ·rw[List.flatMap_def,List.flatMap_def];congr 1
  exact List.map_congr_left fun i hi=>by rw[h2 i (List.mem_range.1 hi)]
 ·simp[h3]
section
variable {C:Ctx} {J:Env} {fps:Nat->Nat->Prop} {res:List aI} {w0 w:World} {F0:Nat->Prop}
theorem C9{K:Nat->Prop}{t ty e b n bty cap:Nat}{inf:TypeInfo}{z c v:V}{xv:Value}{xs:List Value}(ht:C.P.underlying t=some (.slice e))(hZ:C.Z e=some z)(hC:C.vo)(hi:C.P.info? e=some inf)(hsz:0<bP z)
  (hown:w.ownsRow 0 e (bP z) xv n xs) (hb:w.heap[b]? =some (.cells (cells J c).toArray bty (0,0))) (hok:ok K c) (hct:bp c=false) (hg:cS 8 c 0 (bP z) (eC z)=some v) (hq:cV n inf.bytes):
  ∃v' w',(Builtin.append_ #[t,t] ty #[xv,.slice (some ⟨b,0,none⟩) 1 cap]).run C.P w= .ok v' w'/\w'.ownsRow 0 e (bP z) v' (n+1) (xs++cells J v)/\w.grownBy w' xv.ownBlock/\∀b',v'.ownBlock=some b'->xv.ownBlock=some b'\/w.heap.size<=b':=by
 obtain⟨inf',i1,i2,i3,i4,i5⟩:=hC e z hZ;rw[hi]at i1;simp only[aa]at i1;subst i1;obtain⟨⟨p,q,e1,e2⟩,e3,e4,e5,e6⟩:=bO J 8 c 0 _ _ v hok hct hg;have hp:p= []:=List.length_eq_zero_iff.1 e2.symm;subst hp;simp only[List.nil_append]at e1;have hlv:=aO J v e5;have hzs:(den Env.zero z).cells.size=bP z:=by rw[<-aO Env.zero z i3];simp[cells]
 have hnl:(cells J v).length=1*bP z:=by rw[hlv,e3];simp
 have hnc:∀j u,(cells J v)[j]? =some u->w.cell? ((⟨b,0,none⟩:Addr).add j)=some u:=fun j u hu=>by
  rw[add_lit,Nat.zero_add,cell_of_row w b j _ _ _ hb];have hj:=(List.getElem?_eq_some_iff.1 hu).1;simp only[List.getElem?_toArray,e1];rw[List.getElem?_append_left hj];exact hu
 have hone:=c9 J v e5 e6;have hown0:=hown;rcases hown.2 with⟨rfl,rfl⟩|⟨g,cap',cur,rfl,h2,h3,h4,h5,h6,h7⟩
 ·have hx:xs= []:=List.length_eq_zero_iff.1 (by have:=hown.1;simpa using this)
  subst hx
  obtain⟨v',w',g1,g2,g3,_⟩:=run_append_own (P:=C.P) w w.heap.size t ty e inf (den Env.zero z) (bP z) inf.bytes ht hi (i2 Env.zero) i5 rfl hzs hsz (.slice none 0 0) 0 [] (World.ownsRow_nil w _ e _)
   ⟨b,0,none⟩ 1 cap (cells J v) hnl hnc hone hq.1 hq.2 (Nat.le_refl _)
  exact⟨v',w',g1,⟨g2.1,g2.2.imp id fun⟨g,cp,cu,a1,a2,a3⟩=>⟨g,cp,cu,a1,Nat.zero_le _,a3⟩⟩,g3,fun b' hb'=> .inr (g2.lt b' hb').1⟩
 ·by_cases hroom:n+1<=cap'
  ·obtain⟨w',g1,g2,g3⟩:=run_append_fits (P:=C.P) w 0 t ty e inf (bP z) ht hi i5 g n cap' xs hown0 ⟨b,0,none⟩ 1 cap (cells J v) hnl hnc hone hroom;exact⟨_,w',g1,g2,g3,fun b' hb'=> .inl hb'⟩
  ·have holds:∀j u,xs[j]? =some u->w.cell? ((⟨g,0,none⟩:Addr).add j)=some u:=fun j u hu=>by
    rw[add_lit,Nat.zero_add,hown0.cellAt j (by rw[<-hown0.1];exact(List.getElem?_eq_some_iff.1 hu).1)];exact hu
   obtain⟨v',w',g1,g2,g3⟩:=run_append_arg_grows (P:=C.P) w t ty e inf (den Env.zero z) (bP z) inf.bytes ht hi (i2 Env.zero) i5 rfl hzs hsz ⟨g,0,none⟩ n cap' xs hown0.1 holds ⟨b,0,none⟩ 1 cap (cells J v) hnl hnc (by omega) hq.1 hq.2
   exact⟨v',w',g1,⟨g2.1,g2.2.imp id fun⟨g,cp,cu,a1,a2,a3⟩=>⟨g,cp,cu,a1,Nat.zero_le _,a3⟩⟩,⟨g3.os,g3.tape,g3.output,g3.size,fun k hk _=>g3.block k hk (by simp)⟩,fun b' hb'=> .inr (g2.lt b' hb').1⟩
def wh(res:List aI)(v:V):Option (Nat×Obj):=
 match v with
 | .lp p 0=>match aH res p with
   | .blk _ (.ob o)=>some (p,o)
   |_=>none
 |_=>none
def IY(C:Ctx)(res:List aI)(t:Nat)(x y:V):Option (Option Prop×V×List aI):=
 match C.P.underlying t with
 |some (.slice e)=>match C.Z e,C.P.info? e with
  |some z,some inf=>match y with
   | .sc k 1 _=>match aH res k with
     | .blk _ c=>match cS 8 c 0 (bP z) (eC z)with
       |some v=>if Nat.blt 0 (bP z)then
        match x with
        | .nl (.slice none 0 0)=>match wh res v with
          |some (p,o)=>if bP z==1 then some (some (cV 0 inf.bytes),.sa res.length,ba [p] res++ [.obs e (res.length+1) [o],.gen res.length])else none
          |none=>(zo v).map fun l=>(some (cV 0 inf.bytes),.sa res.length,ba [] res++ [.arr (some e) (bP z) l])
        | .sa j=>match aH res j with
          | .arr (some e') esz l=>if e'==e&&esz==bP z then(ze l v).map fun l'=>(some (cV l.len inf.bytes),.sa res.length,ba [j] res++ [.arr (some e) (bP z) l'])else none
          | .obs e' _ L=>match wh res v with
            |some (p,o)=>if e'==e&&bP z==1 then some (some (cV (aN L) inf.bytes),.sa res.length,ba [j,p] res++ [.obs e (res.length+1) (bN L o),.gen res.length])else none
            |none=>none
          |_=>none
        |_=>none
        else none
       |none=>none
     |_=>none
   |_=>none
  |_,_=>none
 |_=>none
def Env.eZ(J:Env)(i:Nat)(a:Addr)(n cap:Nat)(ob:Nat->Nat):Env:=
 {num:=J.num,cap:=fun j=>if j=i then cap else J.cap j,adr:=fun j=>if j=i then a else J.adr j,sa:=fun j=>if j=i then some a else J.sa j,sn:=fun j=>if j=i then n else J.sn j,
  ob:=fun j=>if j=i+1 then ob else J.ob j}
theorem pO{N:Nat->Prop}{i:Nat}{a:Addr}{n cap:Nat}{ob:Nat->Nat}(h:¬N i)(h':¬N (i+1)):Env.agree N J (J.eZ i a n cap ob):=fun j hj=>by
 grind[Env.eZ]
theorem wW(i:Nat)(a:Addr)(n cap:Nat)(ob:Nat->Nat):(J.eZ i a n cap ob).sl i= .slice (some a) n cap:=by simp[Env.sl,Env.eZ]
theorem zs{K:Nat->Prop}{w':World}{e esz n:Nat}{g:Nat->V}{v:V}{v':Value}{l':TL}{ts:List Nat}(h:aQ J fps res (known res) w0 F0 w)(hts:∀t∈ts,known res t)
  (hadd:ra K n g v l') (hokv:ok K v) (hvs:bP v=esz) (hold:∀j,j<n->ok (fun _=>False) (g j)/\bp (g j)=false/\bP (g j)=esz)
  (hown:w'.ownsRow 0 e esz v' (n+1) (((List.range n).flatMap fun j=>cells Env.zero (g j))++cells J v)) {xv:Value} (hgr:w.grownBy w' xv.ownBlock)
  (hx:∀b,xv.ownBlock=some b->∃t∈ts,fps t b) (hnew:∀b,v'.ownBlock=some b->xv.ownBlock=some b\/w.heap.size<=b) (hm:n+1<=9223372036854775807):
  ∃ρ' fps',v'=den ρ' (.sa res.length)/\aQ ρ' fps' (ba ts res++ [.arr (some e) esz l']) (known (ba ts res++ [.arr (some e) esz l'])) w0 F0 w'/\Env.agree (known res) J ρ'/\
   (∀i,known res i->known (ba ts res++ [.arr (some e) esz l']) i)/\known (ba ts res++ [.arr (some e) esz l']) res.length:=by
 obtain⟨a1,a2,a3,a4,a5,a6⟩:=hadd;have hown':=hown;rcases hown.2 with⟨_,h0⟩|⟨b,cap,cur,rfl,_,hb,_⟩
 ·omega
 have hnk:¬known res res.length:=fun hk=>by have:=aK hk;omega
 have hnk':¬known res (res.length+1):=fun hk=>by have:=aK hk;omega
 have hcz:cells J v=cells Env.zero v:=by
  rw[<-a3 J,<-a3 Env.zero];exact bw (N:=fun _=>False) (fun _ h=>h.elim) _ (a4 hokv)
 have hblt:b<w'.heap.size:=(Array.getElem?_eq_some_iff.1 hb).1
 obtain⟨fps',g1,g2,g3,g4⟩:=h.lA (ρ':=J.eZ res.length ⟨b,0,none⟩ (n+1) cap (fun _=>0)) (w':=w') ts (.arr (some e) esz l') [] (fun x=>x=b) (by simp) hts (by simp) (pO hnk hnk')
  (by
   refine⟨fun j hj=>?_,by simp[Env.eZ,a1],by rw[a1];exact hm,fun a ha=>by simp[Env.eZ]at ha⊢;exact ha.symm,fun _=>by simp[Env.eZ],fun _=>by simp[Env.eZ],.inr ⟨e,fun e' he=>by simpa using he.symm,?_,fun a ha=>by simp[Env.eZ]at ha;rw[<-ha]⟩⟩
   ·grind
   ·rw[wW,a1,ra.cells (K:=K) ⟨a1,a2,a3,a4,a5,a6⟩,<-hcz];exact hown')
  (fun x hx'=>by
   subst hx';rcases hnew _ rfl with h1|h1
   ·exact .inl (hx _ h1)
   ·exact .inr ⟨h1,hblt⟩)
  hgr.os hgr.tape hgr.output hgr.size (fun x hxl hno=>hgr.block x hxl fun hh=>by
   obtain⟨t,ht,hft⟩:=hx x hh.symm;exact hno t ht hft)
 exact⟨_,fps',by simp[den,Env.eZ],g1,g2,g3,g4⟩
theorem zI{w':World}{e p bty:Nat}{L:List Obj}{o:Obj}{v':Value}{ts:List Nat}{ob:Nat->Nat}(h:aQ J fps res (known res) w0 F0 w)(hts:∀t∈ts,known res t)
  (hp:p∈ts) (hrp:aH res p= .blk bty (.ob o)) (hL:∀x∈L,x.wf)
  (hobs:∀j,j<L.length->(∃t∈ts,fps t (ob j))/\∃t,w.heap[ob j]? =some (.cells (b9 (L.getD j free)).toArray t (0,0)))
  (hown:w'.ownsRow 0 e 1 v' (L.length+1) (((List.range L.length).map fun j=>Value.pointer (some ⟨ob j,0,none⟩))++cells J (.lp p 0))) {xv:Value} (hgr:w.grownBy w' xv.ownBlock)
  (hx:∀b,xv.ownBlock=some b->(∃t∈ts,fps t b)/\(∀j,j<L.length->ob j≠b)/\J.num p≠b) (hnew:∀b,v'.ownBlock=some b->xv.ownBlock=some b\/w.heap.size<=b) (hm:L.length+1<=9223372036854775807):
  ∃ρ' fps',v'=den ρ' (.sa res.length)/\aQ ρ' fps' (ba ts res++ [.obs e (res.length+1) (bN L o),.gen res.length]) (known (ba ts res++ [.obs e (res.length+1) (bN L o),.gen res.length])) w0 F0 w'/\Env.agree (known res) J ρ'/\
   (∀i,known res i->known (ba ts res++ [.obs e (res.length+1) (bN L o),.gen res.length]) i)/\known (ba ts res++ [.obs e (res.length+1) (bN L o),.gen res.length]) res.length:=by
 have hown':=hown;rcases hown.2 with⟨_,h0⟩|⟨b,cap,cur,rfl,_,hb,_⟩
 ·omega
 have hnk:¬known res res.length:=fun hk=>by have:=aK hk;omega
 have hnk':¬known res (res.length+1):=fun hk=>by have:=aK hk;omega
 have hblt:b<w'.heap.size:=(Array.getElem?_eq_some_iff.1 hb).1;have hkp:=hts p hp;have hhp:=h.holds p hkp;rw[hrp]at hhp;obtain⟨p1,_,p3,p4⟩:=hhp;have p1:o.wf:=p1;rw[eY]at p4
 have mh:∀x y,w.heap[x]? =some y->(∀b,xv.ownBlock=some b->x≠b)->w'.heap[x]? =some y:=fun x y hy hne=>by
  rw[hgr.block x (Array.getElem?_eq_some_iff.1 hy).1 fun hh=>hne x hh.symm rfl];exact hy
 have hob:∀j,j<L.length+1->∃y,(if j<L.length then ob j else J.num p)=y/\(∃t∈ts,fps t y)/\∃t,w'.heap[y]? =some (.cells (b9 ((bN L o).getD j free)).toArray t (0,0)):=by
  grind[bN,free]
 have hlen:(bN L o).length=L.length+1:=by simp[bN]
 have hgk:known (ba ts res++ [.obs e (res.length+1) (bN L o),.gen res.length]) (res.length+1):=by
  unfold known;rw[bc,eR,ar (by omega),show res.length+1-res.length=1 by omega];simp[aH]
 obtain⟨fps',g1,g2,g3,g4⟩:=h.lA (ρ':=J.eZ res.length ⟨b,0,none⟩ (L.length+1) cap (fun j=>if j<L.length then ob j else J.num p)) (w':=w') ts (.obs e (res.length+1) (bN L o)) [.gen res.length]
  (fun x=>x=b\/∃j,j<L.length+1/\x=if j<L.length then ob j else J.num p) (by simp) hts (by simp) (pO hnk hnk')
  (by
   refine⟨hgk,fun x hx=>?_,by simp[Env.eZ,hlen],by rw[hlen];exact hm,fun a ha=>by simp[Env.eZ]at ha⊢;exact⟨ha.symm,.inl (by rw[<-ha])⟩,fun _=>by simp[Env.eZ],?_,fun j hj=>?_⟩
   ·rcases List.mem_append.1 hx with hx|hx
    ·exact hL x hx
    ·simp only[List.mem_singleton]at hx;subst hx;exact p1
   ·rw[wW,hlen]
    have:((List.range (L.length+1)).map fun j=>Value.pointer (some ⟨(J.eZ res.length ⟨b,0,none⟩ (L.length+1) cap (fun j=>if j<L.length then ob j else J.num p)).ob (res.length+1) j,0,none⟩))=
      ((List.range L.length).map fun j=>Value.pointer (some ⟨ob j,0,none⟩))++cells J (.lp p 0):=by
     rw[List.range_succ,List.map_append];congr 1
     ·simp_all[Env.eZ]
     ·simp[Env.eZ,cells,den,Value.cells]
    rw[this];exact hown'
   ·rw[hlen]at hj;obtain⟨y,y1,_,t,y3⟩:=hob j hj;have hoby:(J.eZ res.length ⟨b,0,none⟩ (L.length+1) cap (fun j=>if j<L.length then ob j else J.num p)).ob (res.length+1) j=y:=by simp[Env.eZ,y1]
    rw[hoby];exact⟨.inr ⟨j,hj,y1.symm⟩,t,y3⟩)
  (fun x hx'=>by
   rcases hx' with rfl|⟨j,hj,rfl⟩
   ·rcases hnew _ rfl with h1|h1
    ·exact .inl (hx _ h1).1
    ·exact .inr ⟨h1,hblt⟩
   ·obtain⟨y,y1,y2,_⟩:=hob j hj;rw[y1];exact .inl y2)
  hgr.os hgr.tape hgr.output hgr.size (fun x hxl hno=>hgr.block x hxl fun hh=>by
   obtain⟨t,ht,hft⟩:=(hx x hh.symm).1;exact hno t ht hft)
 exact⟨_,fps',by simp[den,Env.eZ],g1,g2,g3,g4⟩
theorem mK{v:V}{p:Nat}{o:Obj}(h:wh res v=some (p,o)):v= .lp p 0/\∃bty,aH res p= .blk bty (.ob o):=by
 unfold wh at h;split at h
 ·grind
 ·simp at h
theorem lI{n:Nat}(h:n<=maxLen):n<=9223372036854775807:=by
 simp only[maxLen]at h;omega
theorem od{w:World}{e:Nat}{xv:Value}{n:Nat}{f:Nat->Value}(h:w.ownsRow 0 e 1 xv n ((List.range n).map f))(hf:∀j,∃a,f j= .pointer a){b x t:Nat}{o:Obj}(hb:xv.ownBlock=some b)
  (hx:w.heap[x]? =some (.cells (b9 o).toArray t (0,0))) (hn:0<n):x≠b:=by
 rintro rfl
 rcases h.2 with⟨_,h0⟩|⟨g,cap,cur,rfl,_,h3,_,_,_,h7⟩
 ·omega
 ·simp only[Value.ownBlock,aa]at hb;subst hb;rw[h3]at hx;simp only[aa,Go.Obj.cells.injEq]at hx;rw[hx.1]at h7;have h0:=congrArg (·[0]?) h7;obtain⟨a,ha⟩:=hf 0;simp[b9,i64,hn,ha]at h0
theorem Bl{t ty:Nat}{x y r:V}{q:Option Prop}{res':List aI}(hC:C.vo)(h:aQ J fps res (known res) w0 F0 w)(ha:IY C res t x y=some (q,r,res'))(hq:bq q)(hx:ok (known res) x):
  ∃w' ρ' fps',(Builtin.append_ #[t,t] ty #[den J x,den J y]).run C.P w= .ok (den ρ' r) w'/\aQ ρ' fps' res' (known res') w0 F0 w'/\Env.agree (known res) J ρ'/\(∀i,known res i->known res' i)/\ok (known res') r:=by
 unfold IY at ha;split at ha
 ·rename_i e ht;split at ha
  ·rename_i z inf hZ hi;split at ha
   ·rename_i k cap;split at ha
    ·rename_i bty c hk;split at ha
     ·rename_i v hg;split at ha
      ·rename_i hsz;have hsz:0<bP z:=by simpa using hsz
       have hkk:=h.holds k (by unfold known;rw[hk];simp)
       rw[hk]at hkk;obtain⟨c1,c2,c3,c4⟩:=hkk;obtain⟨_,v2,v3,v4,v5⟩:=bO J 8 c 0 _ _ v c1 c2 hg;have run:∀{n:Nat} {xv:Value} {xs:List Value},w.ownsRow 0 e (bP z) xv n xs->cV n inf.bytes->_:=fun{n xv xs} ho hf=>C9 (C:=C) (ty:=ty) (cap:=cap) ht hZ hC hi hsz ho c4 c1 c2 hg hf
       split at ha
       ·
        split at ha
        ·rename_i p o hob;obtain⟨rfl,bt,hrp⟩:=mK hob;split at ha<;>simp only[aa,ae,reduceCtorEq]at ha
         rename_i hz1;have hz1:=aj.1 hz1;obtain⟨rfl,rfl,rfl⟩:=ha;obtain⟨v',w',g1,g2,g3,g4⟩:=run (World.ownsRow_nil w 0 e (bP z)) hq;rw[hz1]at g2;have hkp:known res p:=by unfold known;rw[hrp];simp
         obtain⟨ρ',fps',f1,f2,f3,f4,f5⟩:=zI (L:= []) (ob:=fun _=>0) (ts:= [p]) h (by simpa using hkp) (by simp) hrp (by simp) (fun j hj=>by simp at hj) g2 g3 (fun b hb=>by simp[Value.ownBlock]at hb) g4 (by simp)
         exact⟨w',ρ',fps',by rw[<-f1];exact g1,f2,f3,f4,f5⟩
        ·cases hl:zo v with
         |none=>simp[hl]at ha
         |some l=>
          simp only[hl,Option.map_some,aa,ae]at ha;obtain⟨rfl,rfl,rfl⟩:=ha;obtain⟨v',w',g1,g2,g3,g4⟩:=run (World.ownsRow_nil w 0 e (bP z)) hq;obtain⟨ρ',fps',f1,f2,f3,f4,f5⟩:=zs (n:=0) (g:=fun _=>v) (ts:= []) h (by simp) (yA (K:=known res) hl _) v4 v2 (fun j hj=>by omega) (by simpa using g2) g3 (fun b hb=>by simp[Value.ownBlock]at hb) g4 (by simp)
          exact⟨w',ρ',fps',by rw[<-f1];exact g1,f2,f3,f4,f5⟩
       ·rename_i j;split at ha
        ·rename_i e' esz l hj;split at ha
         ·rename_i hc;simp only[ah,aj]at hc;obtain⟨rfl,rfl⟩:=hc;cases hl:ze l v with
          |none=>simp[hl]at ha
          |some l'=>
           simp only[hl,Option.map_some,aa,ae]at ha;obtain⟨rfl,rfl,rfl⟩:=ha;have hjj:=h.holds j (by unfold known;rw[hj];simp)
           rw[hj]at hjj;obtain⟨a1,a2,a3,a4,a5,a6,a7⟩:=hjj;rcases a7 with⟨b1,_⟩|⟨e2,b1,b2,b3⟩
           ·simp at b1
           ·have:=b1 e' rfl;subst this;obtain⟨v',w',g1,g2,g3,g4⟩:=run b2 hq
            obtain⟨ρ',fps',f1,f2,f3,f4,f5⟩:=zs (n:=l.len) (g:=l.get) (ts:= [j]) h (by have hx:known res j:=hx;simpa using hx) (x9 (K:=known res) hl) v4 v2 a1 g2 g3 (fun b hb=>by
             refine⟨j,by simp,?_⟩
             cases hs:J.sa j with
             |none=>simp[Env.sl,hs,Value.ownBlock]at hb
             |some a=>
              simp only[Env.sl,hs,Value.ownBlock,aa]at hb;rw[<-hb];exact b3 a hs) g4 (lI hq.1)
            exact⟨w',ρ',fps',by rw[<-f1];exact g1,f2,f3,f4,f5⟩
         ·simp at ha
        ·rename_i e' q0 L hj;split at ha
         ·rename_i p o hob;obtain⟨rfl,bt,hrp⟩:=mK hob;split at ha<;>simp only[aa,ae,reduceCtorEq]at ha
          rename_i hc;simp only[ah,aj]at hc;obtain⟨rfl,hz1⟩:=hc;obtain⟨rfl,rfl,rfl⟩:=ha;have hkj:known res j:=by unfold known;rw[hj];simp
          have hkp:known res p:=by unfold known;rw[hrp];simp
          have hjj:=h.holds j hkj;rw[hj]at hjj;obtain⟨_,a1,a2,a3,a4,a5,a6,a7⟩:=hjj;have hne:j≠p:=fun e=>by rw[e,hrp]at hj;simp at hj
          have hpp:=h.holds p hkp;rw[hrp]at hpp;obtain⟨_,_,p3,_⟩:=hpp;obtain⟨v',w',g1,g2,g3,g4⟩:=run (by rw[hz1];exact a6) hq
          rw[hz1]at g2
          obtain⟨ρ',fps',f1,f2,f3,f4,f5⟩:=zI (L:=L) (ob:=J.ob q0) (ts:= [j,p]) h (by simp[hkj,hkp]) (by simp) hrp a1 (fun i hi=>⟨⟨j,by simp,(a7 i hi).1⟩,(a7 i hi).2⟩) g2 g3 (fun b hb=>by
           have hb':=hb;cases hs:J.sa j with
           |none=>simp[Env.sl,hs,Value.ownBlock]at hb
           |some a=>
            simp only[den,hs,Value.ownBlock,aa,Env.sl]at hb;have hfb:fps j b:=by rw[<-hb];exact(a4 a hs).2
            refine⟨⟨j,by simp,hfb⟩,fun i hi=>?_,fun e=>h.disj j p b hkj hkp hne hfb (e▸p3)⟩
            obtain⟨_,t,hti⟩:=a7 i hi;exact od a6 (fun i=>⟨_,rfl⟩) hb' hti (by omega)) g4 (lI hq.1)
          exact⟨w',ρ',fps',by rw[<-f1];exact g1,f2,f3,f4,f5⟩
         ·simp at ha
        ·simp at ha
       ·simp at ha
      ·simp at ha
     ·simp at ha
    ·simp at ha
   ·simp at ha
  ·simp at ha
 ·simp at ha
end
end Go.Sx
namespace Go.Sx
open Go.RowKit (Below)
theorem CD{α:Type}(l vs:List α)(off m:Nat)(hm:off+vs.length<=m)(hl:m<=l.length):
  (l.take off++vs++l.drop (off+vs.length)).take m=(l.take m).take off++vs++(l.take m).drop (off+vs.length):=by
 have h1:(l.take off++vs).length=off+vs.length:=by simp;omega
 rw[List.take_append,List.take_of_length_le (by rw[h1];exact hm),h1,List.take_take,Nat.min_eq_left (by omega),List.drop_take]
theorem ja{P:Program}{w:World}{e size n cap g:Nat}{xs:List Value}(hown:w.ownsRow 0 e size (.slice (some ⟨g,0,none⟩) n cap) n xs)(vs:List Value)(off:Nat)
  (h1:∀v∈vs,v.oneCell'=true) (hoff:off+vs.length<=n*size):
  ∃w',(storeCells ⟨g,off,none⟩ vs 0).run P w= .ok () w'/\w'.ownsRow 0 e size (.slice (some ⟨g,0,none⟩) n cap) n (xs.take off++vs++xs.drop (off+vs.length))/\w.grownBy w' (some g):=by
 rcases hown.2 with⟨h,_⟩|⟨g',cap',cur,h,hb,hg,hnc,hcm,hcs,htake⟩
 ·simp at h
 ·simp only[Value.slice.injEq,aa,Addr.mk.injEq,and_true,true_and]at h;obtain⟨rfl,rfl⟩:=h;have hle:n*size<=cur.size:=by rw[hcs];exact Nat.mul_le_mul_right _ hnc
  have hst:=run_storeCells_at (P:=P) g off e vs 0 cur w hg (by omega) h1
  simp only[Nat.add_zero]at hst;refine⟨_,hst,⟨?_,.inr ⟨g,cap,_,rfl,hb,setRow_heap w g cur _ e _ hg,hnc,hcm,?_,?_⟩⟩,⟨rfl,rfl,rfl,by simp[World.setRow],fun k _ hk=>setRow_other w g _ k (fun e=>hk (by simp[e]))⟩⟩
  ·grind
  ·grind
  ·grind[CD]
theorem aQ.qB{J ρ':Env}{fps:Nat->Nat->Prop}{res:List aI}{w0:World}{F0:Nat->Prop}{w w':World}(h:aQ J fps res (known res) w0 F0 w)(ts:List Nat)(j:Nat)(r:aI)(ms:List aI)(fp:Nat->Prop)
  (hms:∀m∈ms,∃j,m= .gen j) (hts:∀t∈ts,known res t) (hj:known res j) (hjt:j∉ts) (hr:r≠ .yet) (hag:Env.agree (known res) J ρ')
  (hh:r.holds (known (ba ts (bd res j r)++ms)) ρ' j fp w0 F0 w') (hfp:∀b,fp b->fps j b\/(∃t∈ts,fps t b)\/(w.heap.size<=b/\b<w'.heap.size))
  (hos:w'.os=w.os) (htape:w'.tape=w.tape) (hout:w'.output=w.output) (hsize:w.heap.size<=w'.heap.size)
  (hsame:∀b,b<w.heap.size->¬fps j b->(∀t∈ts,¬fps t b)->w'.heap[b]? =w.heap[b]?):
  ∃fps',aQ ρ' fps' (ba ts (bd res j r)++ms) (known (ba ts (bd res j r)++ms)) w0 F0 w'/\Env.agree (known res) J ρ'/\(∀i,known res i->known (ba ts (bd res j r)++ms) i):=by
 have hlj:=aK hj;have hlt:∀t∈ts,t<(bd res j r).length:=fun t ht=>by rw[a8];exact aK (hts t ht)
 have hget:∀i,aH (ba ts (bd res j r)++ms) i=if i<res.length then(if i∈ts then .gone else if i=j then r else aH res i)else aH ms (i-res.length):=by
  simp_all[bc,eR,a8,mP,aY]
 have hmget:∀k,aH ms k= .yet\/∃j,aH ms k= .gen j:=fun k=>by
  rw[gB,aq];cases hm:ms[k]? with
  |none=>exact .inl rfl
  |some m=>
   obtain⟨j,rfl⟩:=hms m (List.mem_of_getElem? hm);exact .inr ⟨j,rfl⟩
 have hmono:∀i,known res i->known (ba ts (bd res j r)++ms) i:=fun i hi=>by
  grind[known,aK]
 obtain⟨fps',g⟩:=h.turn (res':=ba ts (bd res j r)++ms) (K':=known (ba ts (bd res j r)++ms)) (fun i=>i∈ts\/i=j) (fun i=>i∈ts\/i=j\/res.length<=i) (fun i b=>i=j/\fp b)
  (fun i hi=>hi) hmono hag (fun i hi hb=>by
   have hi':=hi;unfold known at hi';rw[hget]at hi';have h1:i∉ts:=fun e=>hb (.inl e)
   have h2:i≠j:=fun e=>hb (.inr (.inl e))
   have hl:i<res.length:=by
    rcases Nat.lt_or_ge i res.length with h|h
    ·exact h
    ·exact absurd (.inr (.inr h)) hb
   rw[au hl,ar h1,ar h2]at hi';exact⟨hi',fun e=>e.elim h1 h2,by rw[hget,au hl,ar h1,ar h2]⟩)
  (fun i hi hb=>by
   by_cases e:i=j
   ·subst e;refine⟨?_,fun b hf=>?_⟩
    ·rw[hget,au hlj,ar hjt,au rfl];have:(fun b=>i=i/\fp b)=fp:=by funext b;simp
     rw[this];exact hh
    ·rcases hfp b hf.2 with hf|⟨t,ht,hft⟩|hn
     ·exact .inl ⟨i,.inr rfl,hj,hf⟩
     ·exact .inl ⟨t,.inl ht,hts t ht,hft⟩
     ·exact .inr hn
   ·refine⟨?_,fun b hf=>absurd hf.1 e⟩
    rw[hget];by_cases hl:i<res.length
    ·rw[au hl,au (hb.resolve_right fun hh=>hh.elim e (by omega))]
     trivial
    ·rw[ar hl];rcases hmget (i-res.length)with h|⟨j,h⟩<;>rw[h]<;>trivial)
  (fun i j b _ _ hne hf hf'=>hne (hf.1.trans hf'.1.symm))
  hos htape hout hsize (fun b hb hno=>hsame b hb (hno j (.inr rfl) hj) fun t ht=>hno t (.inl ht) (hts t ht))
 exact⟨fps',g,hag,hmono⟩
def fL{α:Type}(l:List α)(i:Nat)(x:α):List α:=l.set i x
def s9(l:TL)(i:Nat)(v:V):Option TL:=
 match l with
 | .ob l=>match v with
   | .ob o=>some (.ob (fL l i o))
   |_=>none
 | .key l=>match v with
   | .key k=>some (.key (fL l i k))
   |_=>none
 | .it k l=>match toInt v with
   |some (k',n)=>if k==k' then some (.it k (fL l i n))else none
   |none=>none
 | .bo l=>match toBool v with
   |some b=>some (.bo (fL l i b))
   |none=>none
 | .st l=>match v with
   | .st s=>some (.st (fL l i s))
   |_=>none
 | .fn _ _=>none
 | .qs _ _=>none
def G7(K:Nat->Prop)(l:TL)(i:Nat)(v:V)(l':TL):Prop:=
 l'.len=l.len/\(∀j,j≠i->l'.get j=l.get j)/\(i<l.len->(∀J,cells J (l'.get i)=cells J v)/\(ok K v->ok (fun _=>False) (l'.get i))/\bp (l'.get i)=false/\bP (l'.get i)=bP v)
theorem kW{α:Type}(l:List α)(i:Nat)(x d:α):(∀j,j≠i->aX (fL l i x) j d=aX l j d)/\(i<l.length->aX (fL l i x) i d=x):=by
 grind[aX,fL]
theorem qS{K:Nat->Prop}{l l':TL}{i:Nat}{v:V}(h:s9 l i v=some l'):G7 K l i v l':=by
 unfold s9 at h;cases l with
 |fn n g=>simp at h
 |qs n g=>simp at h
 |ob l=>
  cases v<;>simp only[aa,reduceCtorEq]at h
  subst h;rename_i o;obtain⟨a,b⟩:=kW l i o free;exact⟨by simp[TL.len,aN,fL],fun j hj=>congrArg V.ob (a j hj),fun hi=>⟨fun J=>by simp only[TL.get,b hi],fun hk=>by simp only[TL.get,b hi];exact hk,rfl,rfl⟩⟩
 |key l=>
  cases v<;>simp only[aa,reduceCtorEq]at h
  subst h;rename_i o;obtain⟨a,b⟩:=kW l i o void;exact⟨by simp[TL.len,aN,fL],fun j hj=>congrArg V.key (a j hj),fun hi=>⟨fun J=>by simp only[TL.get,b hi],fun hk=>by simp only[TL.get,b hi];exact hk,rfl,rfl⟩⟩
 |it k l=>
  simp only at h;split at h
  ·rename_i k' n hn;split at h<;>simp only[aa,reduceCtorEq]at h
   rename_i hk;have hk:=aj.1 hk;subst hk;subst h;obtain⟨a,b⟩:=kW l i n 0;obtain⟨c1,c2,c3⟩:=gg (K:=K) hn;exact⟨by simp[TL.len,aN,fL],fun j hj=>congrArg (V.it k) (a j hj),fun hi=>⟨fun J=>by simp only[TL.get,b hi];exact c1 J,fun hk=>by simp only[TL.get,b hi];exact c2 hk,rfl,c3⟩⟩
  ·simp at h
 |bo l=>
  simp only at h;split at h<;>simp only[aa,reduceCtorEq]at h
  rename_i b hb;subst h;obtain⟨a,b'⟩:=kW l i b false;obtain⟨c1,c3⟩:=gF hb;exact⟨by simp[TL.len,aN,fL],fun j hj=>congrArg V.bo (a j hj),fun hi=>⟨fun J=>by simp only[TL.get,b' hi];exact c1 J,fun _=>trivial,rfl,c3⟩⟩
 |st l=>
  cases v<;>simp only[aa,reduceCtorEq]at h
  subst h;rename_i o;obtain⟨a,b⟩:=kW l i o ByteArray.empty;exact⟨by simp[TL.len,aN,fL],fun j hj=>congrArg V.st (a j hj),fun hi=>⟨fun J=>by simp only[TL.get,b hi],fun hk=>by simp only[TL.get,b hi];exact hk,rfl,rfl⟩⟩
theorem oh{α:Type}{f:Nat->List α}{esz:Nat}:∀{n:Nat},(∀j,j<n->(f j).length=esz)->((List.range n).flatMap f).length=n*esz
 |0,_=>by simp
 |n+1,h=>by
  rw[List.range_succ,List.flatMap_append,List.length_append,oh fun j hj=>h j (by omega)]
  simp[h n (by omega),Nat.succ_mul]
theorem og{α:Type}{f f':Nat->List α}{esz:Nat}:∀{n i:Nat},(∀j,j<n->(f j).length=esz)->(∀j,j<n->j≠i->f' j=f j)->(f' i).length=esz->i<n->
  (List.range n).flatMap f'=((List.range n).flatMap f).take (i*esz)++f' i++((List.range n).flatMap f).drop (i*esz+esz)
 |0,i,_,_,_,hi=>by omega
 |n+1,i,h,hf,hl,hi=>by
  have hlen:((List.range n).flatMap f).length=n*esz:=oh fun j hj=>h j (by omega)
  rw[List.range_succ,List.flatMap_append,List.flatMap_append];simp only[List.flatMap_cons,List.flatMap_nil,List.append_nil];by_cases e:i=n
  ·subst e
   have e1:(List.range i).flatMap f'=(List.range i).flatMap f:=by
    rw[List.flatMap_def,List.flatMap_def];congr 1
    exact List.map_congr_left fun j hj=>hf j (by have:=List.mem_range.1 hj;omega) (by have:=List.mem_range.1 hj;omega)
   rw[e1,List.take_append,List.take_of_length_le (by omega),hlen,Nat.sub_self,List.take_zero,List.append_nil,List.drop_of_length_le (by simp[hlen,h i (by omega)]),List.append_nil]
  ·have hin:i<n:=by omega
   have hm:i*esz+esz<=n*esz:=by rw[<-Nat.succ_mul];exact Nat.mul_le_mul_right _ hin
   rw[og (fun j hj=>h j (by omega)) (fun j hj hne=>hf j (by omega) hne) hl hin,hf n (by omega) (fun e'=>e e'.symm)]
   rw[List.take_append_of_le_length (by omega),List.drop_append_of_le_length (by omega)]
   simp only[List.append_assoc]
def xP(P:Program)(res:List aI)(t j esz i off:Nat)(y:V):Option (Option Prop×List aI):=
 if iz P t==some (bP y)&& !bp y then
  match aH res j with
  | .arr (some e) esz' l=>if esz==esz' then
    match setAt 8 (l.get i) off y with
    |some v'=>if bP v'==esz then(s9 l i v').map fun l'=>(some (AX i l.len),bd res j (.arr (some e) esz l'))else none
    |none=>none
    else none
  |_=>none
 else none
def xQ(P:Program)(res:List aI)(t:Nat)(p y:V):Option (Option Prop×List aI):=
 match p with
 | .ap j esz i off=>if iz P t==some (bP y)&& !bp y&&bP y==esz&&off==0 then
   match aH res j with
   | .arr (some e) esz' l=>if esz==esz' then(s9 l i y).map fun l'=>(some (AX i l.len),bd res j (.arr (some e) esz l'))else none
   | .obs ty _ L=>match wh res y with
     |some (k,o)=>if esz==1 then some (some (AX i (aN L)),ba [k] (bd res j (.obs ty res.length (fL L i o)))++ [.gen j])else none
     |none=>none
   |_=>none
   else xP P res t j esz i off y
 |_=>none
def Env.iF(J:Env)(q:Nat)(f:Nat->Nat):Env:= {J with ob:=fun j=>if j=q then f else J.ob j}
theorem vM{N:Nat->Prop}{J:Env}{q:Nat}{f:Nat->Nat}(h:¬N q):Env.agree N J (J.iF q f):=fun j hj=>by
 have:j≠q:=fun e=>h (e▸hj)
 simp[Env.iF,this]
section
variable {P:Program} {J:Env} {fps:Nat->Nat->Prop} {res:List aI} {w0 w:World} {F0:Nat->Prop}
theorem jG{t:Nat}{y:V}{K:Nat->Prop}{b off:Nat}{w':World}(hs:iz P t=some (bP y))(hy:ok K y)(h:(storeCells ⟨b,off,none⟩ (cells J y) 0).run P w= .ok () w'):
  (Instr.storeAt t (.pointer (some ⟨b,off,none⟩)) (den J y)).run P w= .ok () w':=by
 have hz:(den J y).cells.size=bP y:=by rw[<-aO J y hy];simp[cells]
 simp only[Instr.storeAt,Instr.sureAddr,storeVar,Sem.run_bind,Sem.run_pure,cE w hs,Result.andThen_ok,hz,ne_eq,not_true_eq_false,if_false];rw[show(den J y).cells.toList=cells J y from rfl,h]
theorem E3{α:Type}{c A p m q B ys:List α}{n off:Nat}(hc:c=A++(p++m++q)++B)(hA:A.length=n)(hp:p.length=off)(hm:m.length=ys.length):c.take (n+off)++ys++c.drop (n+off+ys.length)=A++(p++ys++q)++B:=by
 have e:c=(A++p)++(m++(q++B)):=by rw[hc];simp
 have e2:c=(A++p++m)++(q++B):=by rw[hc];simp
 have l1:(A++p).length=n+off:=by simp[hA,hp]
 have l2:(A++p++m).length=n+off+ys.length:=by simp[hA,hp,hm];omega
 have h1:c.take (n+off)=A++p:=by rw[e,<-l1];exact List.take_left
 have h2:c.drop (n+off+ys.length)=q++B:=by rw[e2,<-l2];exact List.drop_left
 rw[h1,h2];simp
theorem vV{t j esz i off:Nat}{y:V}{q:Option Prop}{res':List aI}(h:aQ J fps res (known res) w0 F0 w)(hs:xP P res t j esz i off y=some (q,res'))(hq:bq q)(hkj:known res j)(hy:ok (known res) y):
  ∃w' ρ' fps',(Instr.storeAt t (den J (.ap j esz i off)) (den J y)).run P w= .ok () w'/\aQ ρ' fps' res' (known res') w0 F0 w'/\Env.agree (known res) J ρ'/\∀i,known res i->known res' i:=by
 unfold xP at hs;split at hs
 case isFalse=>simp at hs
 rename_i hc;simp only[ah,aj,Bool.not_eq_true']at hc;obtain⟨hts,hty⟩:=hc;have hj:=h.holds j hkj;split at hs
 case h_2=>simp at hs
 rename_i e esz' l hr;rw[hr]at hj;split at hs
 case isFalse=>simp at hs
 rename_i he;have he:=aj.1 he;subst he;split at hs
 case h_2=>simp at hs
 rename_i v' hv';split at hs
 case isFalse=>simp at hs
 rename_i hvs;have hvs:=aj.1 hvs;cases hl:s9 l i v' with
 |none=>simp[hl]at hs
 |some l'=>
  simp only[hl,Option.map_some,aa,ae]at hs;obtain⟨rfl,rfl⟩:=hs;have hi:i<l.len:=hq;obtain⟨s1,s2,s3⟩:=qS (K:=known res) hl;obtain⟨t1,t2,t3,t4⟩:=s3 hi;obtain⟨a1,a2,a3,a4,a5,a6,a7⟩:=hj;obtain⟨x1,x2,x3⟩:=a1 i hi;obtain⟨⟨p0,m0,q0,y1,y2,y3,y4⟩,y5,y6,y7⟩:=dF (N:=known res) J y hy hty 8 (l.get i) off v' (bE (fun _ h=>h.elim) _ x1) x2 hv'
  rcases a7 with⟨b1,_⟩|⟨e2,b1,b2,b3⟩
  ·simp at b1
  ·have:=b1 e rfl;subst this;obtain⟨g,f1,f2,f3,f4⟩:=fo b2 (by omega)
   have hadr:=a4 _ f1;have hm:i*esz+esz<=l.len*esz:=by rw[<-Nat.succ_mul];exact Nat.mul_le_mul_right _ hi
   have hlen:∀j,j<l.len->(cells Env.zero (l.get j)).length=esz:=fun j hj=>by rw[aO Env.zero _ (a1 j hj).1];exact(a1 j hj).2.2
   have hsl:J.sl j= .slice (some ⟨g,0,none⟩) l.len (J.cap j):=by simp[Env.sl,f1,f2]
   rw[hsl]at b2;have hcy:=aO J y hy
   have hcz:cells J v'=cells Env.zero (l'.get i):=by
    rw[<-t1 J];exact bw (N:=fun _=>False) (fun _ h=>h.elim) _ (t2 y6)
   have hc0:cells Env.zero (l.get i)=p0++m0++q0:=by
    rw[<-y1];exact(bw (N:=fun _=>False) (fun _ h=>h.elim) _ x1).symm
   have hl0':=hlen i hi;have hl0:=hl0';rw[hc0]at hl0;simp only[List.length_append]at hl0;obtain⟨w',r1,r2,r3⟩:=ja (P:=P) b2 (cells J y) (i*esz+off) (c9 J y hy hty) (by omega)
   have hfj:fps j g:=b3 _ f1
   obtain⟨fps',g1,g2,g3⟩:=h.qB (ρ':=J) (w':=w') [] j (.arr (some e) esz l') [] (fps j) (by simp) (by simp) hkj (by simp) (by simp) (Env.agree.refl _ _)
    (by
     refine⟨fun k hk=>?_,by rw[s1];exact a2,by rw[s1];exact a3,a4,by rw[s1];exact a5,by rw[s1];exact a6,.inr ⟨e,fun e' he=>by simpa using he.symm,?_,b3⟩⟩
     ·by_cases ek:k=i
      ·subst ek;exact⟨t2 y6,t3,t4.trans hvs⟩
      ·rw[s2 k ek];exact a1 k (by omega)
     ·rw[hsl,s1];have hv:=aO J v' y6
      have hf:l'.cells=l.cells.take (i*esz)++cells J v'++l.cells.drop (i*esz+esz):=by
       unfold TL.cells;rw[s1,hcz,og (f:=fun j=>cells Env.zero (l.get j)) (f':=fun j=>cells Env.zero (l'.get j)) (i:=i) hlen (fun j _ hne=>by simp only[s2 j hne]) (by rw[<-hcz,hv];exact hvs) hi]
      have hs0:l.cells=l.cells.take (i*esz)++(p0++m0++q0)++l.cells.drop (i*esz+esz):=by
       have:=og (f:=fun j=>cells Env.zero (l.get j)) (f':=fun j=>cells Env.zero (l.get j)) (i:=i) hlen (fun j _ hne=>rfl) hl0' hi
       rw[hc0]at this;exact this
      have hlc:l.cells.length=l.len*esz:=oh hlen
      have:l'.cells=l.cells.take (i*esz+off)++cells J y++l.cells.drop (i*esz+off+(cells J y).length):=by
       rw[E3 hs0 (by rw[List.length_take];omega) y3 (by rw[hcy];exact y4),hf,y2]
      rw[this];exact r2)
    (fun b hb=> .inl hb) r3.os r3.tape r3.output r3.size (fun b hb hno _=>r3.block b hb fun e=>hno (by simp only[aa]at e;rw[e];exact hfj))
   refine⟨w',J,fps',?_,by simpa[ba]using g1,g2,by simpa[ba]using g3⟩
   simp only[den];rw[<-hadr];simp only[Nat.zero_add];exact jG hts hy r1
theorem vG{t:Nat}{p y:V}{q:Option Prop}{res':List aI}(h:aQ J fps res (known res) w0 F0 w)(hs:xQ P res t p y=some (q,res'))(hq:bq q)(hp:ok (known res) p)(hy:ok (known res) y):
  ∃w' ρ' fps',(Instr.storeAt t (den J p) (den J y)).run P w= .ok () w'/\aQ ρ' fps' res' (known res') w0 F0 w'/\Env.agree (known res) J ρ'/\∀i,known res i->known res' i:=by
 unfold xQ at hs;split at hs
 ·rename_i j esz i off;split at hs
  ·rename_i hc;simp only[ah,aj,Bool.not_eq_true']at hc;obtain⟨⟨⟨hts,hty⟩,hvs⟩,rfl⟩:=hc;have hkj:known res j:=hp;have hj:=h.holds j hkj;split at hs
   ·rename_i e esz' l hr;rw[hr]at hj;split at hs
    ·rename_i he;have he:=aj.1 he;subst he;cases hl:s9 l i y with
     |none=>simp[hl]at hs
     |some l'=>
      simp only[hl,Option.map_some,aa,ae]at hs;obtain⟨rfl,rfl⟩:=hs;have hi:i<l.len:=hq;obtain⟨s1,s2,s3⟩:=qS (K:=known res) hl;obtain⟨t1,t2,t3,t4⟩:=s3 hi;obtain⟨a1,a2,a3,a4,a5,a6,a7⟩:=hj;rcases a7 with⟨b1,_⟩|⟨e2,b1,b2,b3⟩
      ·simp at b1
      ·have:=b1 e rfl;subst this;obtain⟨g,f1,f2,f3,f4⟩:=fo b2 (by omega)
       have hadr:=a4 _ f1;have hm:i*esz+esz<=l.len*esz:=by rw[<-Nat.succ_mul];exact Nat.mul_le_mul_right _ hi
       have hlen:∀j,j<l.len->(cells Env.zero (l.get j)).length=esz:=fun j hj=>by rw[aO Env.zero _ (a1 j hj).1];exact(a1 j hj).2.2
       have hsl:J.sl j= .slice (some ⟨g,0,none⟩) l.len (J.cap j):=by simp[Env.sl,f1,f2]
       rw[hsl]at b2;have hcy:=aO J y hy
       have hcz:cells J y=cells Env.zero (l'.get i):=by
        rw[<-t1 J];exact bw (N:=fun _=>False) (fun _ h=>h.elim) _ (t2 hy)
       obtain⟨w',r1,r2,r3⟩:=ja (P:=P) b2 (cells J y) (i*esz) (c9 J y hy hty) (by omega)
       have hfj:fps j g:=b3 _ f1
       obtain⟨fps',g1,g2,g3⟩:=h.qB (ρ':=J) (w':=w') [] j (.arr (some e) esz l') [] (fps j) (by simp) (by simp) hkj (by simp) (by simp) (Env.agree.refl _ _)
        (by
         refine⟨fun k hk=>?_,by rw[s1];exact a2,by rw[s1];exact a3,a4,by rw[s1];exact a5,by rw[s1];exact a6,.inr ⟨e,fun e' he=>by simpa using he.symm,?_,b3⟩⟩
         ·grind
         ·rw[hsl,s1]
          have:l'.cells=l.cells.take (i*esz)++cells J y++l.cells.drop (i*esz+(cells J y).length):=by
           unfold TL.cells;rw[s1,hcz,og (f:=fun j=>cells Env.zero (l.get j)) (f':=fun j=>cells Env.zero (l'.get j)) (i:=i) hlen (fun j _ hne=>by simp only[s2 j hne]) (by rw[<-hcz,hcy];exact hvs) hi,<-hcz,hcy,hvs]
          rw[this];exact r2)
        (fun b hb=> .inl hb) r3.os r3.tape r3.output r3.size (fun b hb hno _=>r3.block b hb fun e=>hno (by simp only[aa]at e;rw[e];exact hfj))
       refine⟨w',J,fps',?_,by simpa[ba]using g1,g2,by simpa[ba]using g3⟩
       simp only[den];rw[<-hadr];simp only[Nat.zero_add,Nat.add_zero];exact jG hts hy r1
    ·simp at hs
   ·rename_i ty q0 L hr;rw[hr]at hj;split at hs
    ·rename_i k o hob;obtain⟨rfl,bt,hrk⟩:=mK hob;split at hs<;>simp only[aa,ae,reduceCtorEq]at hs
     rename_i he;have he:=aj.1 he;subst he;obtain⟨rfl,rfl⟩:=hs;have hi:i<L.length:=hq;obtain⟨a0,a1,a2,a3,a4,a5,a6,a7⟩:=hj;have hkk:known res k:=by unfold known;rw[hrk];simp
     have hne:j≠k:=fun e=>by rw[e,hrk]at hr;simp at hr
     have hk:=h.holds k hkk;rw[hrk]at hk;obtain⟨k1,_,k3,k4⟩:=hk;have k1:o.wf:=k1;rw[eY]at k4;obtain⟨g,f1,f2,f3,f4⟩:=fo a6 (by omega)
     obtain⟨hadr,hfj⟩:=a4 _ f1;have hfj:fps j g:=hfj;have hsl:J.sl j= .slice (some ⟨g,0,none⟩) L.length (J.cap j):=by simp[Env.sl,f1,f2]
     have a6':=a6;rw[hsl]at a6;obtain⟨w',r1,r2,r3⟩:=ja (P:=P) a6 (cells J (.lp k 0)) i (by simp[cells,den,Value.cells,Value.oneCell']) (by simp[cells,den,Value.cells];omega)
     have hnk:¬known res res.length:=fun hk=>by have:=aK hk;omega
     have hgb:∀x y,w.heap[x]? =some y->x≠g->w'.heap[x]? =some y:=fun x y hy hne=>by
      rw[r3.block x (Array.getElem?_eq_some_iff.1 hy).1 fun hh=>hne (by simpa using hh)];exact hy
     have hkg:J.num k≠g:=fun e=>h.disj j k g hkj hkk hne hfj (e▸k3)
     have hog:∀x,x<L.length->J.ob q0 x≠g:=fun x hx=>by
      obtain⟨_,t,hti⟩:=a7 x hx;exact od a6 (fun i=>⟨_,rfl⟩) (by rfl) hti (by omega)
     have hnr:known (ba [k] (bd res j (.obs ty res.length (fL L i o)))++ [.gen j]) res.length:=by
      unfold known;rw[bc,eR,a8,ar (by omega)];simp[aH]
     have hll:(fL L i o).length=L.length:=by simp[fL]
     obtain⟨fps',g1,g2,g3⟩:=h.qB (ρ':=J.iF res.length (fun x=>if x=i then J.num k else J.ob q0 x)) (w':=w') [k] j (.obs ty res.length (fL L i o)) [.gen j] (fun b=>fps j b\/fps k b) (by simp) (by simpa using hkk) hkj (by simpa using hne) (by simp)
      (vM hnk)
      (by
       refine⟨hnr,fun x hx=>?_,by rw[hll];exact a2,by rw[hll];exact a3,fun a ha=>⟨(a4 a ha).1,.inl (a4 a ha).2⟩,by rw[hll];exact a5,?_,fun x hx=>?_⟩
       ·rcases List.mem_or_eq_of_mem_set hx with hx|rfl
        ·exact a1 x hx
        ·exact k1
       ·rw[hll,show(J.iF res.length (fun x=>if x=i then J.num k else J.ob q0 x)).sl j=J.sl j from rfl,hsl]
        have:((List.range L.length).map fun x=>Value.pointer (some ⟨(J.iF res.length (fun x=>if x=i then J.num k else J.ob q0 x)).ob res.length x,0,none⟩))=
          ((List.range L.length).map fun x=>Value.pointer (some ⟨J.ob q0 x,0,none⟩)).take i++cells J (.lp k 0)++((List.range L.length).map fun x=>Value.pointer (some ⟨J.ob q0 x,0,none⟩)).drop (i+(cells J (.lp k 0)).length):=by
         have hl1:(cells J (.lp k 0)).length=1:=rfl;rw[hl1];apply List.ext_getElem?
         intro x;rw[List.append_assoc];by_cases hx:x<i
         ·grind[Env.iF]
         ·rw[List.getElem?_append_right (by simp;omega)]
          have hti:(List.take i (List.map (fun x=>Value.pointer (some ⟨J.ob q0 x,0,none⟩)) (List.range L.length))).length=i:=by simp;omega
          rw[hti];by_cases hxi:x=i
          ·subst hxi;simp[Env.iF,hi,cells,den,Value.cells]
          ·rw[List.getElem?_append_right (by omega),List.getElem?_drop,hl1,show i+1+(x-i-1)=x by omega]
           by_cases hxl:x<L.length
           ·simp[Env.iF,hxi,hxl]
           ·simp[hxl]
        rw[this];exact r2
       ·rw[hll]at hx;have hob:(J.iF res.length (fun x=>if x=i then J.num k else J.ob q0 x)).ob res.length x=if x=i then J.num k else J.ob q0 x:=by simp[Env.iF]
        rw[hob];by_cases hxi:x=i
        ·rw[au hxi];refine⟨.inr k3,bt,?_⟩;rw[show(fL L i o).getD x free=o by subst hxi;simp[fL,aq,hi]]
         exact hgb _ _ k4 hkg
        ·rw[ar hxi];obtain⟨c1,t,c2⟩:=a7 x hx;refine⟨.inl c1,t,?_⟩;rw[show(fL L i o).getD x free=L.getD x free by simp[fL,aq,List.getElem?_set,Ne.symm hxi]]
         exact hgb _ _ c2 (hog x hx))
      (fun b hb=>hb.elim .inl fun hb=> .inr (.inl ⟨k,by simp,hb⟩)) r3.os r3.tape r3.output r3.size (fun b hb hno _=>r3.block b hb fun e=>hno (by simp only[aa]at e;rw[e];exact hfj))
     refine⟨w',_,fps',?_,g1,g2,g3⟩
     have hd:den J (.ap j 1 i 0)= .pointer (some ⟨g,i,none⟩):=by
      simp only[den];rw[<-hadr];simp
     rw[hd];exact jG hts hy r1
    ·simp at hs
   ·simp at hs
  ·exact vV h hs hq hp hy
 ·simp at hs
end
end Go.Sx
namespace Go.Sx
open Go.RowKit (Below)
def sM(Q:List (List Int)):List (List Int):=Q.tail
def JX(Q:List (List Int)):Prop:=1<=aN Q
def G5(C:Ctx)(res:List aI)(t:Nat)(x y:V):Option (Option Prop×V×List aI):=
 match C.P.underlying t with
 |some (.slice e)=>match C.Z e with
  |some z=>match C.P.info? e with
   |some inf=>match y with
    | .sc k m _=>if m==1 then(match aH res k with
      | .blk _ c=>match cS 8 c 0 (bP z) (eC z)with
        |some v=>match v with
         | .ag xl=>match fm xl with
           |some l=>match x with
            | .sa j=>match aH res j with
              | .que e' n Q=>if e'==e&&n==bP z&&l.length==n&&Nat.blt 0 n then some (some (cV (aN Q) inf.bytes),.sa res.length,ba [j] res++ [.que e n (bN Q (bj l))])else none
              |_=>none
            |_=>none
           |none=>none
         |_=>none
        |none=>none
      |_=>none)else none
    |_=>none
   |none=>none
  |none=>none
 |_=>none
def Lp(P:Program)(res:List aI)(t:Nat)(x:V)(lo:V):Option (Option Prop×V×List aI):=
 match P.underlying t with
 |some (.slice e)=>match iz P e with
  |some z=>match x with
   | .sa j=>match aH res j with
     | .que e' n Q=>match lo with
       | .ci k a=>if a==1&&n==z then some (some (JX Q),.sa res.length,ba [j] res++ [.que e' n (sM Q)])else none
       |_=>none
     |_=>none
   |_=>none
  |none=>none
 |_=>none
section
variable {C:Ctx} {J:Env} {fps:Nat->Nat->Prop} {res:List aI} {w0 w:World} {F0:Nat->Prop}
theorem nw{w:World}{base e size n:Nat}{v:Value}{xs:List Value}(h:w.ownsRow base e size v n xs):pZ w e size v n xs:=by
 refine⟨h.1,?_⟩;rcases h.2 with h0|⟨g,cap,cur,h1,h2,h3,h4,h5,h6,h7⟩
 ·exact .inl h0
 ·exact .inr ⟨g,0,cap,cur,h1,h3,h4,h5,by omega,by simpa using h7⟩
theorem vW{P:Program}(w:World)(t ty e:TypeId)(i:TypeInfo)(ht:P.underlying t=some (.slice e))(hi:P.info? e=some i)
  (g off sLen sCap:Nat) (cur:Array Value) (hg:w.heap[g]? =some (.cells cur e (0,0)))
  (a:Addr) (m c:Nat) (news:List Value) (hl:news.length=m*i.size) (hnews:∀j u,news[j]? =some u->w.cell? (a.add j)=some u) (h1:∀u∈news,u.oneCell'=true)
  (hroom:sLen+m<=sCap) (hfit:off+sLen*i.size+news.length<=cur.size):
  (Builtin.append_ #[t,t] ty #[.slice (some ⟨g,off,none⟩) sLen sCap,.slice (some a) m c]).run P w=
   .ok (.slice (some ⟨g,off,none⟩) (sLen+m) sCap) (w.setRow g (cur.toList.take (off+sLen*i.size)++news++cur.toList.drop (off+sLen*i.size+news.length)).toArray):=by
 have hf:=run_firstCells_some (P:=P) w i.size m a m c news hl hnews;have hst:=run_storeCells_at P g (off+sLen*i.size) e news 0 cur w hg (by simpa using hfit) h1
 simp only[Nat.add_zero]at hst;simp[Builtin.append_,run_underlying ht,sizeOf,typeInfo,hi,Builtin.lenOf,hroom,hf,Addr.add_lit,hst]
theorem CA{P:Program}{w:World}{t ty e:TypeId}{i:TypeInfo}{z:Value}{size bytes:Nat}(ht:P.underlying t=some (.slice e))(hi:P.info? e=some i)(hz:i.zero=some z)
  (hsize:i.size=size) (hby:i.bytes=bytes) (hzs:z.cells.size=size) (hsz:0<size) {v:Value} {n:Nat} {xs:List Value} (hown:pZ w e size v n xs)
  (a:Addr) (c:Nat) (news:List Value) (hl:news.length=1*size) (hnews:∀j u,news[j]? =some u->w.cell? (a.add j)=some u) (h1:∀u∈news,u.oneCell'=true)
  (hq:cV n bytes):
  ∃v' w',(Builtin.append_ #[t,t] ty #[v,.slice (some a) 1 c]).run P w= .ok v' w'/\pZ w' e size v' (n+1) (xs++news)/\w.grownBy w' v.ownBlock/\∀b',v'.ownBlock=some b'->v.ownBlock=some b'\/(w.heap.size<=b'/\b'<w'.heap.size):=by
 rcases hown.2 with⟨rfl,rfl⟩|⟨g,off,cap,cur,rfl,hg,hnc,hcm,hcs,htake⟩
 ·have hx:xs= []:=List.eq_nil_of_length_eq_zero (by simpa using hown.1)
  subst hx
  obtain⟨v',w',g1,g2,g3,_⟩:=run_append_own (P:=P) w w.heap.size t ty e i z size bytes ht hi hz hsize hby hzs hsz (.slice none 0 0) 0 [] (World.ownsRow_nil w _ e _)
   a 1 c news hl hnews h1 hq.1 hq.2 (Nat.le_refl _)
  exact⟨v',w',g1,nw g2,g3,fun b' hb'=> .inr (g2.lt b' hb')⟩
 ·by_cases hroom:n+1<=cap
  ·subst hsize
   have hfit:off+n*i.size+news.length<=cur.size:=by
    rw[hl,Nat.add_assoc,<-Nat.add_mul];exact Nat.le_trans (Nat.add_le_add_left (Nat.mul_le_mul_right _ hroom) _) hcs
   have hr:=vW (P:=P) w t ty e i ht hi g off n cap cur hg a 1 c news hl hnews h1 hroom hfit;refine⟨_,_,hr,⟨by rw[List.length_append,hown.1,hl,Nat.add_mul],.inr ⟨g,off,cap,_,rfl,setRow_heap w g cur _ e _ hg,hroom,hcm,?_,?_⟩⟩,⟨rfl,rfl,rfl,by simp[World.setRow],fun k _ hk=>setRow_other w g _ k (fun e=>hk (by simp[Value.ownBlock,e]))⟩,fun b' hb'=> .inl hb'⟩
   ·simp only[List.size_toArray,List.length_append,List.length_take,List.length_drop,Array.length_toList];omega
   ·have hlen:cur.toList.length=cur.size:=Array.length_toList
    have e1:(cur.toList.take (off+n*i.size)).drop off=xs:=by
     rw[List.drop_take,Nat.add_sub_cancel_left];exact htake
    have e2:(cur.toList.take (off+n*i.size)++news++cur.toList.drop (off+n*i.size+news.length)).drop off=xs++news++cur.toList.drop (off+n*i.size+news.length):=by
     rw[List.append_assoc,List.drop_append_of_le_length (by rw[List.length_take,hlen];omega),e1,List.append_assoc]
    simp only[List.append_assoc]at e2⊢;rw[e2,<-List.append_assoc];exact List.take_left' (by rw[List.length_append,hown.1,hl,Nat.add_mul])
  ·have hcur:∀j u,xs[j]? =some u->w.cell? ((⟨g,off,none⟩:Addr).add j)=some u:=fun j u hu=>by
    have hj:=(List.getElem?_eq_some_iff.1 hu).1;rw[add_lit,cell_of_row w g _ cur e (0,0) hg,<-hu,<-htake,List.getElem?_take_of_lt (by rw[<-hown.1];exact hj),List.getElem?_drop,Array.getElem?_toList]
   obtain⟨v',w',g1,g2,g3⟩:=run_append_arg_grows (P:=P) w t ty e i z size bytes ht hi hz hsize hby hzs hsz ⟨g,off,none⟩ n cap xs hown.1 hcur a 1 c news hl hnews (by omega) hq.1 hq.2
   exact⟨v',w',g1,nw g2,⟨g3.os,g3.tape,g3.output,g3.size,fun k hk _=>g3.block k hk (by simp)⟩,fun b' hb'=> .inr (g2.lt b' hb')⟩
def Env.iC(J:Env)(i:Nat)(a:Option Addr)(n cap:Nat):Env:=
 {J with cap:=fun j=>if j=i then cap else J.cap j,adr:=fun j=>if j=i then a.getD ⟨0,0,none⟩else J.adr j,sa:=fun j=>if j=i then a else J.sa j,sn:=fun j=>if j=i then n else J.sn j}
theorem mL{N:Nat->Prop}{i:Nat}{a:Option Addr}{n cap:Nat}(h:¬N i):Env.agree N J (J.iC i a n cap):=fun j hj=>by
 have:j≠i:=fun e=>h (e▸hj)
 simp[Env.iC,this]
theorem tr{e size n:Nat}{v:Value}{xs:List Value}(h:pZ w e size v n xs):∃a cap,v= .slice a n cap/\(∀x,a=some x->x.spot=none/\v.ownBlock=some x.block)/\(0<n->a.isSome=true):=by
 rcases h.2 with⟨rfl,rfl⟩|⟨g,off,cap,cur,rfl,_⟩
 ·exact⟨_,_,rfl,fun x hx=>by simp at hx,fun h=>by omega⟩
 ·exact⟨_,_,rfl,fun x hx=>by simp only[aa]at hx;subst hx;exact⟨rfl,rfl⟩,fun _=>rfl⟩
theorem tz{K:Nat->Prop}{e n:Nat}{v:Value}{Q:List (List Int)}(h:pZ w e n v Q.length (ee Q))(hQ:Bw n Q)(hm:Q.length<=9223372036854775807):
  ∃a cap,v= .slice a Q.length cap/\∀(J:Env) (i:Nat) (fp:Nat->Prop) (w1:World) (F1:Nat->Prop),(∀b,v.ownBlock=some b->fp b)->(aI.que e n Q).holds K (J.iC i a Q.length cap) i fp w1 F1 w:=by
 obtain⟨a,cap,rfl,h1,h2⟩:=tr h;refine⟨a,cap,rfl,fun J i fp w1 F1 hf=>⟨hQ,by simp[Env.iC],hm,fun x hx=>?_,fun h=>by simpa[Env.iC]using h2 h,by simpa[Env.sl,Env.iC]using h⟩⟩
 simp only[Env.iC,if_true]at hx⊢;subst hx;exact⟨rfl,(h1 x rfl).1,hf _ (h1 x rfl).2⟩
theorem Bb{t ty:Nat}{x y r:V}{q:Option Prop}{res':List aI}(hC:C.vo)(h:aQ J fps res (known res) w0 F0 w)(ha:G5 C res t x y=some (q,r,res'))(hq:bq q)(hx:ok (known res) x):
  ∃w' ρ' fps',(Builtin.append_ #[t,t] ty #[den J x,den J y]).run C.P w= .ok (den ρ' r) w'/\aQ ρ' fps' res' (known res') w0 F0 w'/\Env.agree (known res) J ρ'/\(∀i,known res i->known res' i)/\ok (known res') r:=by
 unfold G5 at ha;split at ha
 case h_2=>simp at ha
 rename_i e ht;split at ha
 case h_2=>simp at ha
 rename_i z hZ;split at ha
 case h_2=>simp at ha
 rename_i inf hi;split at ha
 case h_2=>simp at ha
 rename_i k m cap;split at ha
 case isFalse=>simp at ha
 rename_i hm;have hm:=aj.1 hm;subst hm;split at ha
 case h_2=>simp at ha
 rename_i bty c hk;split at ha
 case h_2=>simp at ha
 rename_i v hg;split at ha
 case h_2=>simp at ha
 rename_i xl;split at ha
 case h_2=>simp at ha
 rename_i l hl;split at ha
 case h_2=>simp at ha
 rename_i j;split at ha
 case h_2=>simp at ha
 rename_i e' n Q hj;split at ha<;>simp only[aa,ae,reduceCtorEq]at ha
 rename_i hc;simp only[ah,aj]at hc;obtain⟨⟨⟨rfl,rfl⟩,hln⟩,hsz⟩:=hc;have hsz:0<bP z:=by simpa using hsz
 obtain⟨rfl,rfl,rfl⟩:=ha;obtain⟨inf',i1,i2,i3,i4,i5⟩:=hC e' z hZ;rw[hi]at i1;simp only[aa]at i1;subst i1;have hkk:=h.holds k (by unfold known;rw[hk];simp)
 rw[hk]at hkk;obtain⟨c1,c2,c3,c4⟩:=hkk;obtain⟨⟨p,p',e1,e2⟩,e3,e4,e5,e6⟩:=bO J 8 c 0 _ _ _ c1 c2 hg;have hp:p= []:=List.length_eq_zero_iff.1 e2.symm;subst hp;simp only[List.nil_append]at e1;obtain⟨d1,d2⟩:=gP (J:=J) hl e5.1;have hin:=oi hl e5.1;have hcl:cells J (.ag xl)=(bj l).map i64:=by unfold cells;rw[d1];simp[cF,Value.cells]
 have hzs:(den Env.zero z).cells.size=bP z:=by rw[<-aO Env.zero z i3];simp[cells]
 have hnl:(cells J (.ag xl)).length=1*bP z:=by rw[hcl,List.length_map,d2,hln,Nat.one_mul]
 have hnc:∀j u,(cells J (.ag xl))[j]? =some u->w.cell? ((⟨J.num k,0,none⟩:Addr).add j)=some u:=fun j u hu=>by
  rw[add_lit,Nat.zero_add,cell_of_row w _ j _ _ _ c4];have hj:=(List.getElem?_eq_some_iff.1 hu).1;simp only[List.getElem?_toArray,e1];rw[List.getElem?_append_left hj];exact hu
 have hone:=c9 J (.ag xl) e5 e6;have hkj:known res j:=by unfold known;rw[hj];simp
 have hjj:=h.holds j hkj;rw[hj]at hjj;obtain⟨a1,a2,a3,a4,a5,a6⟩:=hjj;obtain⟨v',w',g1,g2,g3,g4⟩:=CA (P:=C.P) (ty:=ty) ht hi (i2 Env.zero) i5 rfl hzs hsz a6 ⟨J.num k,0,none⟩ cap (cells J (.ag xl)) hnl hnc hone hq
 have hQ':Bw (bP z) (Q++ [bj l]):=fun y hy=>by
  rcases List.mem_append.1 hy with hy|hy
  ·exact a1 y hy
  ·simp only[List.mem_singleton]at hy;subst hy;exact⟨by rw[d2,hln],hin⟩
 have hlen:(Q++ [bj l]).length=Q.length+1:=by simp
 have g2:pZ w' e' (bP z) v' (Q++ [bj l]).length (ee (Q++ [bj l])):=by
  rw[hlen];have:ee (Q++ [bj l])=ee Q++cells J (.ag xl):=by rw[hcl];simp[ee]
  rw[this];exact g2
 have hfit:(Q++ [bj l]).length<=9223372036854775807:=by rw[hlen];exact lI hq.1
 obtain⟨a',cap',rfl,hh⟩:=tz (K:=known (ba [j] res++ [.que e' (bP z) (Q++ [bj l])])) g2 hQ' hfit;have hnk:¬known res res.length:=fun hk=>by have:=aK hk;omega
 have hxb:∀b,(J.sl j).ownBlock=some b->fps j b:=fun b hb=>by
  cases hs:J.sa j with
  |none=>simp[Env.sl,hs,Value.ownBlock]at hb
  |some a=>
   simp only[Env.sl,hs,Value.ownBlock,aa]at hb;rw[<-hb];exact(a4 a hs).2.2
 obtain⟨fps',f1,f2,f3,f4⟩:=h.lA (ρ':=J.iC res.length a' (Q++ [bj l]).length cap') (w':=w') [j] (.que e' (bP z) (Q++ [bj l])) [] (fun b=>(Value.slice a' (Q++ [bj l]).length cap').ownBlock=some b) (by simp) (by simpa using hkj) (by simp) (mL hnk)
  (hh J res.length _ w0 F0 fun b hb=>hb)
  (fun b hb=>by
   rcases g4 b hb with h1|h1
   ·exact .inl ⟨j,by simp,hxb b h1⟩
   ·exact .inr h1)
  g3.os g3.tape g3.output g3.size (fun b hbl hno=>g3.block b hbl fun hh=>hno j (by simp) (hxb b hh.symm))
 exact⟨w',_,fps',by
  rw[show den (J.iC res.length a' (Q++ [bj l]).length cap') (.sa res.length)= .slice a' (Q++ [bj l]).length cap' by simp[den,Env.iC]]
  exact g1,f1,f2,f3,f4⟩
theorem Df{P:Program}{t:Nat}{x lo r:V}{q:Option Prop}{res':List aI}(h:aQ J fps res (known res) w0 F0 w)(ha:Lp P res t x lo=some (q,r,res'))(hq:bq q):
  ∃ρ' fps',(Instr.sliceAt t (den J x) (some (den J lo)) none none).run P w= .ok (den ρ' r) w/\aQ ρ' fps' res' (known res') w0 F0 w/\Env.agree (known res) J ρ'/\(∀i,known res i->known res' i)/\ok (known res') r:=by
 unfold Lp at ha;split at ha
 case h_2=>simp at ha
 rename_i e ht;split at ha
 case h_2=>simp at ha
 rename_i z hz;split at ha
 case h_2=>simp at ha
 rename_i j;split at ha
 case h_2=>simp at ha
 rename_i e' n Q hj;split at ha
 case h_2=>simp at ha
 rename_i k a;split at ha<;>simp only[aa,ae,reduceCtorEq]at ha
 rename_i hc;simp only[ah,aj]at hc;obtain⟨rfl,rfl⟩:=hc;obtain⟨rfl,rfl,rfl⟩:=ha;have hq:1<=Q.length:=hq;have hkj:known res j:=by unfold known;rw[hj];simp
 have hjj:=h.holds j hkj;rw[hj]at hjj;obtain⟨a1,a2,a3,a4,a5,a6⟩:=hjj;cases Q with
 |nil=>simp at hq
 |cons y Q=>
 have hQ':Bw n Q:=fun y hy=>a1 y (by simp[hy])
 have hnk:¬known res res.length:=fun hk=>by have:=aK hk;omega
 have hxb:∀b,(J.sl j).ownBlock=some b->fps j b:=fun b hb=>by
  cases hs:J.sa j with
  |none=>simp[Env.sl,hs,Value.ownBlock]at hb
  |some a=>
   simp only[Env.sl,hs,Value.ownBlock,aa]at hb;rw[<-hb];exact(a4 a hs).2.2
 have hxl:=(a1 y (by simp)).1
 rcases a6.2 with⟨_,h0⟩|⟨g,off,cap,cur,f1,f2,f3,f4,f5,f6⟩
 ·simp at h0
 simp only[List.length_cons]at f1 f3 f6
 have hrow:pZ w e' n (.slice (if cap=1 then some ⟨g,off,none⟩else some ⟨g,off+n,none⟩) Q.length (cap-1)) Q.length (ee Q):=by
  refine⟨rD hQ',.inr ?_⟩
  have ht:(ee Q)=((ee (y::Q)).drop n):=by
   show _=((y.map i64)++ee Q).drop n
   rw[List.drop_append_of_le_length (by simp[hxl]),List.drop_of_length_le (by simp[hxl])];rfl
  by_cases hc:cap=1
  ·subst hc;have:Q= []:=List.length_eq_zero_iff.1 (by omega)
   subst this;exact⟨g,off,0,cur,by simp,f2,by simp,by simp[maxLen],by omega,by simp[ee]⟩
  ·obtain⟨c,rfl⟩:∃c,cap=c+1:=⟨cap-1,by omega⟩
   refine⟨g,off+n,c,cur,by rw[ar hc];rfl,f2,by omega,by omega,by rw[Nat.succ_mul]at f5;omega,?_⟩
   rw[ht,<-f6,List.drop_take,List.drop_drop,Nat.succ_mul,Nat.add_sub_cancel]
 obtain⟨a',cap',hv,hh⟩:=tz (K:=known (ba [j] res++ [.que e' n Q])) hrow hQ' (by simp at a3;omega)
 have hsub:∀b,(Value.slice (if cap=1 then some ⟨g,off,none⟩else some ⟨g,off+n,none⟩) Q.length (cap-1)).ownBlock=some b->fps j b:=fun b hb=>by
  refine hxb b ?_;rw[f1];rw[<-hb];by_cases hc:cap=1
  ·rw[au hc];rfl
  ·rw[ar hc];rfl
 obtain⟨fps',p1,p2,p3,p4⟩:=h.lA (ρ':=J.iC res.length a' Q.length cap') (w':=w) [j] (.que e' n Q) [] (fun b=>fps j b) (by simp) (by simpa using hkj) (by simp) (mL hnk)
  (hh J res.length _ w0 F0 fun b hb=>hsub b hb)
  (fun b hb=> .inl ⟨j,by simp,hb⟩) rfl rfl rfl (Nat.le_refl _) (fun _ _ _=>rfl)
 refine⟨_,fps',?_,p1,p2,p3,p4⟩;rw[show den (J.iC res.length a' Q.length cap') (.sa res.length)= .slice a' Q.length cap' by simp[den,Env.iC],<-hv]
 show(Instr.sliceAt t (J.sl j) (some (.int k 1)) none none).run P w=_
 rw[f1]
 have hb:(Instr.sliceBounds true (Q.length+1) cap (some (.int k 1)) none none).run P w= .ok (1,Q.length+1,cap) w:=by
  have h1:(1:Int)<=((Q.length+1:Nat):Int):=by omega
  have h2:=run_sliceBound (P:=P) w k 1 (Q.length+1) .sliceB (by omega) h1
  simp[Instr.sliceBounds,h2]
 simp only[Instr.sliceAt,Instr.slice,Sem.run_bind,aT w ht,Result.andThen_ok,hb,cE w hz,Sem.run_pure,Nat.one_mul,Nat.add_sub_cancel,Option.map_some,Addr.add_lit]
def w8{α:Type}(a b:List α):List α:=a++b
def JF(n m b:Nat):Prop:=n+m<=maxLen/\(n+m)*b<=140737488355328
def xb(a b:TL):Option TL:=
 match a with
 | .qs n Q=>match b with
   | .qs n' Q'=>if n==n' then some (.qs n (w8 Q Q'))else none
   |_=>none
 | .it k L=>match b with
   | .it k' L'=>if k==k' then some (.it k (w8 L L'))else none
   |_=>none
 |_=>none
theorem sD{a b l:TL}(h:xb a b=some l):l.len=a.len+b.len/\(∀i,i<a.len->l.get i=a.get i)/\∀i,i<b.len->l.get (a.len+i)=b.get i:=by
 unfold xb at h;split at h
 ·split at h
  case h_2=>simp at h
  split at h<;>simp only[aa,reduceCtorEq]at h
  subst h;rename_i n Q _ n' Q' hn;have hn:=aj.1 hn;subst hn;refine⟨by simp[TL.len,aN,w8],fun i hi=>?_,fun i hi=>?_⟩
  ·simp only[TL.get];have e:(Q++Q').getD i []=Q.getD i []:=by rw[aq,List.getElem?_append_left hi,<-aq]
   exact congrArg V.ag (qD (fun c=>by unfold cr w8;rw[e]) n 0)
  ·simp only[TL.get];have e:(Q++Q').getD (Q.length+i) []=Q'.getD i []:=by rw[aq,List.getElem?_append_right (by omega),Nat.add_sub_cancel_left,<-aq]
   exact congrArg V.ag (qD (fun c=>by unfold cr w8;exact congrArg (fun l=>List.getD l c 0) e) n 0)
 ·split at h
  case h_2=>simp at h
  split at h<;>simp only[aa,reduceCtorEq]at h
  subst h;rename_i k L _ k' L' hk;have hk:=aj.1 hk;subst hk;refine⟨by simp[TL.len,aN,w8],fun i hi=>?_,fun i hi=>?_⟩
  ·simp only[TL.get,aX,w8];rw[aq,List.getElem?_append_left hi,<-aq]
  ·simp only[TL.get,aX,w8,TL.len,aN];rw[aq,List.getElem?_append_right (by omega),Nat.add_sub_cancel_left,<-aq]
 ·simp at h
theorem vU{a b l:TL}(h:xb a b=some l):l.cells=a.cells++b.cells:=by
 obtain⟨h1,h2,h3⟩:=sD h;unfold TL.cells;rw[h1,List.range_add,List.flatMap_append];congr 1
 ·rw[List.flatMap_def,List.flatMap_def];exact congrArg _ (List.map_congr_left fun i hi=>by rw[h2 i (List.mem_range.1 hi)])
 ·rw[List.flatMap_def,List.flatMap_def,List.map_map];exact congrArg _ (List.map_congr_left fun i hi=>by simp only[Function.comp];rw[h3 i (List.mem_range.1 hi)])
theorem zk{w':World}{e esz:Nat}{l':TL}{v':Value}{ts:List Nat}(h:aQ J fps res (known res) w0 F0 w)(hts:∀t∈ts,known res t)
  (hold:∀j,j<l'.len->ok (fun _=>False) (l'.get j)/\bp (l'.get j)=false/\bP (l'.get j)=esz) (hown:w'.ownsRow 0 e esz v' l'.len l'.cells) {xv:Value} (hgr:w.grownBy w' xv.ownBlock)
  (hx:∀b,xv.ownBlock=some b->∃t∈ts,fps t b) (hnew:∀b,v'.ownBlock=some b->xv.ownBlock=some b\/(w.heap.size<=b/\b<w'.heap.size)) (hm:l'.len<=9223372036854775807):
  ∃ρ' fps',v'=den ρ' (.sa res.length)/\aQ ρ' fps' (ba ts res++ [.arr (some e) esz l']) (known (ba ts res++ [.arr (some e) esz l'])) w0 F0 w'/\Env.agree (known res) J ρ'/\
   (∀i,known res i->known (ba ts res++ [.arr (some e) esz l']) i)/\known (ba ts res++ [.arr (some e) esz l']) res.length:=by
 have hf:∃a cap,v'= .slice a l'.len cap/\(∀x,a=some x->x.spot=none/\v'.ownBlock=some x.block)/\(0<l'.len->a.isSome=true):=by
  rcases hown.2 with⟨rfl,h0⟩|⟨g,cap,cur,rfl,_⟩
  ·exact⟨_,_,by rw[h0],fun x hx=>by simp at hx,fun h=>by omega⟩
  ·exact⟨_,_,rfl,fun x hx=>by simp only[aa]at hx;subst hx;exact⟨rfl,rfl⟩,fun _=>rfl⟩
 obtain⟨a,cap,hv,h1,h2⟩:=hf;have hnk:¬known res res.length:=fun hk=>by have:=aK hk;omega
 obtain⟨fps',g1,g2,g3,g4⟩:=h.lA (ρ':=J.iC res.length a l'.len cap) (w':=w') ts (.arr (some e) esz l') [] (fun x=>v'.ownBlock=some x) (by simp) hts (by simp) (mL hnk)
  (by
   refine⟨hold,by simp[Env.iC],hm,fun x hx=>by simp[Env.iC]at hx⊢;simp[hx],fun h=>by simpa[Env.iC]using h2 h,fun h=>?_,.inr ⟨e,fun e' he=>by simpa using he.symm,?_,fun x hx=>?_⟩⟩
   ·have:=h2 h;cases ha:a with
    |none=>rw[ha]at this;simp at this
    |some x=>simp[Env.iC];exact(h1 x ha).1
   ·rw[show(J.iC res.length a l'.len cap).sl res.length=v' by rw[hv];simp[Env.sl,Env.iC]]
    exact hown
   ·simp only[Env.iC,if_true]at hx;exact(h1 x hx).2)
  (fun x hx'=>by
   rcases hnew _ hx' with h1|h1
   ·exact .inl (hx _ h1)
   ·exact .inr h1)
  hgr.os hgr.tape hgr.output hgr.size (fun x hxl hno=>hgr.block x hxl fun hh=>by
   obtain⟨t,ht,hft⟩:=hx x hh.symm;exact hno t ht hft)
 exact⟨_,fps',by rw[hv];simp[den,Env.iC],g1,g2,g3,g4⟩
def FK(C:Ctx)(res:List aI)(t:Nat)(x y:V):Option (Option Prop×V×List aI):=
 match Gb res y with
 |some (q,esz,l2)=>match C.P.underlying t with
  |some (.slice e)=>match C.Z e with
   |some z=>match C.P.info? e with
    |some inf=>match x with
     | .sa j=>match aH res j with
       | .arr own esz' l=>match own with
         |some e'=>if e'==e&&esz'==esz&&esz==bP z&&Nat.blt 0 esz then(xb l l2).map fun l'=>(Ff q (JF l.len l2.len inf.bytes),.sa res.length,ba [j] res++ [.arr (some e) esz l'])else none
         |none=>none
       |_=>none
     |_=>none
    |none=>none
   |none=>none
  |_=>none
 |none=>none
theorem ux{t ty:Nat}{x y r:V}{q:Option Prop}{res':List aI}(hC:C.vo)(h:aQ J fps res (known res) w0 F0 w)(ha:FK C res t x y=some (q,r,res'))(hq:bq q):
  ∃w' ρ' fps',(Builtin.append_ #[t,t] ty #[den J x,den J y]).run C.P w= .ok (den ρ' r) w'/\aQ ρ' fps' res' (known res') w0 F0 w'/\Env.agree (known res) J ρ'/\(∀i,known res i->known res' i)/\ok (known res') r:=by
 unfold FK at ha;split at ha
 case h_2=>simp at ha
 rename_i q' esz l2 hsrc;split at ha
 case h_2=>simp at ha
 rename_i e ht;split at ha
 case h_2=>simp at ha
 rename_i z hZ;split at ha
 case h_2=>simp at ha
 rename_i inf hi;split at ha
 case h_2=>simp at ha
 rename_i j;split at ha
 case h_2=>simp at ha
 rename_i own esz' l hj;split at ha
 case h_2=>simp at ha
 rename_i e';split at ha
 case isFalse=>simp at ha
 rename_i hc;simp only[ah,aj]at hc;obtain⟨⟨⟨rfl,rfl⟩,rfl⟩,hsz⟩:=hc;have hsz:0<bP z:=by simpa using hsz
 cases hl:xb l l2 with
 |none=>simp[hl]at ha
 |some l'=>
 simp only[hl,Option.map_some,aa,ae]at ha;obtain⟨rfl,rfl,rfl⟩:=ha;obtain⟨q0,q1,q2⟩:=vu.1 hq;obtain⟨inf',i1,i2,i3,i4,i5⟩:=hC e' z hZ;rw[hi]at i1;simp only[aa]at i1;subst i1;have hzs:(den Env.zero z).cells.size=bP z:=by rw[<-aO Env.zero z i3];simp[cells]
 obtain⟨s1,s3,ao,cap,hd,hsome,hcell⟩:=vC h hsrc q0;obtain⟨c1,c2,c3⟩:=sD hl;have hkj:known res j:=by unfold known;rw[hj];simp
 have hjj:=h.holds j hkj;rw[hj]at hjj;obtain⟨a1,a2,a3,a4,a5,a6,a7⟩:=hjj;rcases a7 with⟨b1,_⟩|⟨e2,b1,b2,b3⟩
 ·simp at b1
 have:=b1 e' rfl;subst this
 have hold:∀i,i<l'.len->ok (fun _=>False) (l'.get i)/\bp (l'.get i)=false/\bP (l'.get i)=bP z:=fun i hi=>by
  by_cases h1:i<l.len
  ·rw[c2 i h1];exact a1 i h1
  ·obtain⟨m,rfl⟩:∃m,i=l.len+m:=⟨i-l.len,by omega⟩
   rw[c3 m (by omega)];exact s1 m (by omega)
 have hxb:∀b,(J.sl j).ownBlock=some b->∃t∈ [j],fps t b:=fun b hb=>by
  refine⟨j,by simp,?_⟩
  cases hs:J.sa j with
  |none=>simp[Env.sl,hs,Value.ownBlock]at hb
  |some a=>
   simp only[Env.sl,hs,Value.ownBlock,aa]at hb;rw[<-hb];exact b3 a hs
 have hm:l'.len<=9223372036854775807:=by rw[c1];exact lI q1
 have hl2:l2.cells.length=l2.len*bP z:=oT fun i hi=>by rw[aO Env.zero _ (s1 i hi).1];exact(s1 i hi).2.2
 have hone:∀u∈l2.cells,u.oneCell'=true:=fun u hu=>by
  grind[TL.cells,c9,Env.zero]
 have main:∃v' w',(Builtin.append_ #[t,t] ty #[den J (.sa j),den J y]).run C.P w= .ok v' w'/\w'.ownsRow 0 e' (bP z) v' l'.len l'.cells/\w.grownBy w' (J.sl j).ownBlock/\∀b',v'.ownBlock=some b'->(J.sl j).ownBlock=some b'\/(w.heap.size<=b'/\b'<w'.heap.size):=by
  rw[c1,vU hl,hd];show∃v' w',(Builtin.append_ #[t,t] ty #[J.sl j,_]).run C.P w= .ok v' w'/\_
  cases hs:ao with
  |none=>
   have h0:l2.len=0:=by
    rcases Nat.eq_zero_or_pos l2.len with h|h
    ·exact h
    ·have:=hsome h;rw[hs]at this;simp at this
   have hxs:l2.cells= []:=List.length_eq_zero_iff.1 (by rw[hl2,h0];simp)
   refine⟨J.sl j,w,?_,by rw[h0,hxs,Nat.add_zero,List.append_nil];exact b2,⟨rfl,rfl,rfl,Nat.le_refl _,fun _ _ _=>rfl⟩,fun b' hb'=> .inl hb'⟩
   rw[h0];rcases b2.2 with⟨hv,hz⟩|⟨g,cap',cur,hv,_,_,hn,_⟩
   ·rw[hv];simp[Builtin.append_,aT w ht,Builtin.lenOf,Builtin.firstCells,sizeOf,typeInfo,hi]
   ·rw[hv];simp[Builtin.append_,aT w ht,Builtin.lenOf,Builtin.firstCells,sizeOf,typeInfo,hi,hn,storeCells]
  |some a=>
   have hnc:=hcell a hs;rcases b2.2 with⟨hv,hz⟩|⟨g,cap',cur,hv,_,hg,hn,hcm,hcs,htk⟩
   ·have hx:l.cells= []:=List.length_eq_zero_iff.1 (by have:=b2.1;rw[hz]at this;simpa using this)
    rw[hv,hz,hx,Nat.zero_add,List.nil_append]
    obtain⟨v',w',r1,r2,r3,_⟩:=run_append_own (P:=C.P) w w.heap.size t ty e' inf (den Env.zero z) (bP z) inf.bytes ht hi (i2 Env.zero) i5 rfl hzs hsz (.slice none 0 0) 0 [] (World.ownsRow_nil w _ e' _)
     a l2.len cap l2.cells hl2 hnc hone (by have:=q1;omega) (Nat.le_trans (Nat.mul_le_mul_right _ (by omega)) q2) (Nat.le_refl _)
    simp only[Nat.zero_add,List.nil_append]at r2;exact⟨v',w',r1,⟨r2.1,r2.2.imp id fun⟨g,cp,cu,a1,a2,a3⟩=>⟨g,cp,cu,a1,Nat.zero_le _,a3⟩⟩,r3,fun b' hb'=> .inr (r2.lt b' hb')⟩
   ·by_cases hroom:l.len+l2.len<=cap'
    ·have b2':=b2;rw[hv]at b2'⊢;obtain⟨w',r1,r2,r3⟩:=run_append_fits (P:=C.P) w 0 t ty e' inf (bP z) ht hi i5 g l.len cap' l.cells b2' a l2.len cap l2.cells hl2 hnc hone hroom;exact⟨_,w',r1,r2,r3,fun b' hb'=> .inl hb'⟩
    ·have holds:∀j u,l.cells[j]? =some u->w.cell? ((⟨g,0,none⟩:Addr).add j)=some u:=fun k u hu=>by
      rw[add_lit,Nat.zero_add];have b2':=b2;rw[hv]at b2';rw[b2'.cellAt k (by rw[<-b2'.1];exact(List.getElem?_eq_some_iff.1 hu).1)];exact hu
     rw[hv];obtain⟨v',w',r1,r2,r3⟩:=run_append_arg_grows (P:=C.P) w t ty e' inf (den Env.zero z) (bP z) inf.bytes ht hi (i2 Env.zero) i5 rfl hzs hsz ⟨g,0,none⟩ l.len cap' l.cells b2.1 holds a l2.len cap l2.cells hl2 hnc (by omega) q1 q2
     exact⟨v',w',r1,⟨r2.1,r2.2.imp id fun⟨g,cp,cu,a1,a2,a3⟩=>⟨g,cp,cu,a1,Nat.zero_le _,a3⟩⟩,⟨r3.os,r3.tape,r3.output,r3.size,fun k hk _=>r3.block k hk (by simp)⟩,fun b' hb'=> .inr (r2.lt b' hb')⟩
 obtain⟨v',w',g1,g2,g3,g4⟩:=main;obtain⟨ρ',fps',f1,f2,f3,f4,f5⟩:=zk h (by simpa using hkj) hold g2 g3 hxb g4 hm
 exact⟨w',ρ',fps',by rw[<-f1];exact g1,f2,f3,f4,f5⟩
end
end Go.Sx
namespace Go.Sx
open Go.RowKit (Below)
section
variable {J:Env} {fps:Nat->Nat->Prop} {res:List aI} {w0 w:World} {F0:Nat->Prop} {C:Ctx}
def Ip(res:List aI)(x:V):Option (List aI):=
 match x with
 | .sc k n cap=>match aH res k with
   | .blk e c=>match c with
     | .ag xl=>match fm xl with
       |some l=>if n==l.length&&cap==n&&Nat.ble n 1000 then some (ba [k] res++ [.arr (some e) 1 (.it .i64 (bj l))])else none
       |none=>none
     |_=>none
   |_=>none
 |_=>none
theorem Cy(L:List Int):(TL.it .i64 L).cells=L.map i64:=by
 unfold TL.cells;show(List.range L.length).flatMap (fun j=> [i64 (aX L j 0)])=_
 rw[<-List.map_eq_flatMap];refine List.ext_getElem (by simp) fun i h1 h2=>?_
 have hi:i<L.length:=by simpa using h2
 simp[aX,aq,hi]
theorem Ac{x:V}{res':List aI}(h:aQ J fps res (known res) w0 F0 w)(hl:Ip res x=some res'):
  ∃ρ' fps',den J x=den ρ' (.sa res.length)/\aQ ρ' fps' res' (known res') w0 F0 w/\Env.agree (known res) J ρ'/\(∀i,known res i->known res' i)/\known res' res.length:=by
 unfold Ip at hl;split at hl
 case h_2=>simp at hl
 rename_i k n cap;split at hl
 case h_2=>simp at hl
 rename_i e c hr;split at hl
 case h_2=>simp at hl
 rename_i xl;split at hl
 case h_2=>simp at hl
 rename_i l hxl;split at hl
 case isFalse=>simp at hl
 rename_i hc;simp only[ah,aj,Nat.ble_eq]at hc;obtain⟨⟨h1,rfl⟩,h2⟩:=hc;simp only[aa]at hl;subst hl;have hk:known res k:=by unfold known;rw[hr];simp
 have hh:=h.holds k hk;rw[hr]at hh;obtain⟨b1,_,b3,b4⟩:=hh;obtain⟨d1,d2⟩:=gP (J:=J) hxl b1.1;have hin:=oi hxl b1.1;have hcl:cells J (.ag xl)=(bj l).map i64:=by unfold cells;rw[d1];simp[cF,Value.cells]
 have hlen:(bj l).length=cap:=by rw[d2,h1]
 have hTl:(TL.it .i64 (bj l)).len=cap:=hlen;rw[hcl]at b4;have hv:den J (.sc k cap cap)= .slice (some ⟨J.num k,0,none⟩) cap cap:=rfl;rw[hv];refine zk (w':=w) (ts:= [k]) (xv:= .slice (some ⟨J.num k,0,none⟩) cap cap) h (by simpa using hk) (fun j hj=>?_) ?_ ⟨rfl,rfl,rfl,Nat.le_refl _,fun _ _ _=>rfl⟩ (fun b hb=>⟨k,by simp,?_⟩) (fun b hb=> .inl hb) (by rw[hTl];omega)
 ·refine⟨?_,rfl,rfl⟩;rw[hTl]at hj;have hj':j<(bj l).length:=by omega
  show bU .i64 (aX (bj l) j 0)
  unfold aX;rw[aq,List.getElem?_eq_getElem hj'];exact hin _ (List.getElem_mem hj')
 ·rw[hTl,Cy];refine⟨by simp[hlen],.inr ⟨J.num k,cap,_,rfl,Nat.zero_le _,b4,Nat.le_refl _,by simp only[maxLen];omega,by simp[hlen],?_⟩⟩
  exact List.take_of_length_le (by simp[hlen])
 ·simp only[Value.ownBlock,aa]at hb;rw[<-hb];exact b3
def IW(C:Ctx)(res:List aI)(t:Nat)(x y:V):Option (Option Prop×V×List aI):=
 match Ip res x with
 |some res'=>FK C res' t (.sa res.length) y
 |none=>none
theorem Aa{t ty:Nat}{x y r:V}{q:Option Prop}{res':List aI}(hC:C.vo)(h:aQ J fps res (known res) w0 F0 w)(hy:ok (known res) y)(ha:IW C res t x y=some (q,r,res'))(hq:bq q):
  ∃w' ρ' fps',(Builtin.append_ #[t,t] ty #[den J x,den J y]).run C.P w= .ok (den ρ' r) w'/\aQ ρ' fps' res' (known res') w0 F0 w'/\Env.agree (known res) J ρ'/\(∀i,known res i->known res' i)/\ok (known res') r:=by
 unfold IW at ha;split at ha
 case h_2=>simp at ha
 rename_i r1 hl;obtain⟨ρ1,fps1,g1,g2,g3,g4,g5⟩:=Ac h hl;obtain⟨w',ρ',fps',f1,f2,f3,f4,f5⟩:=ux (ty:=ty) hC g2 ha hq;have hd:=cx g3 [y] ⟨hy,trivial⟩;have hd:den ρ1 y=den J y:=by simpa[aV]using hd
 rw[hd,<-g1]at f1;exact⟨w',ρ',fps',f1,f2,g3.trans f3 g4,fun i hi=>f4 i (g4 i hi),f5⟩
end
end Go.Sx
