import Derived.Test.YtmfbohanboiklaaKS
set_option linter.unusedSimpArgs false
set_option linter.unusedVariables false
namespace Go.Sx
abbrev Cp:=List Int
abbrev CS:=List (Cp×Int)×List Cp
def a8 (k:Key):Cp:= [k.kind,k.oid,k.count,k.call,k.rights]
def cq (c:Cp):Key:=⟨ay c 0 0,ay c 1 0,ay c 2 0,ay c 3 0,ay c 4 0,0⟩
def kh (k:Key):Bool:=decide (2<=k.kind)&&decide (k.kind<=10)
def eH (F:List Cp) (c:Cp):Bool:=decide (c∈F)
def Js (S:CS) (c:Cp):CS:=(cj (aN S.1 c) (aT S.1 c) (aV S.1 c+1),if cE S.1 c=true then S.2 else bj S.2 c)
def ki (S:CS) (k:Key):CS:=if kh k=true then Js S (a8 k)else S
def kc (S:CS) (n:Int):Prop:=(S.1.length:Int)<=n/\(S.2.length:Int)<=n/\∀p∈S.1,1<=p.2/\p.2<=n
def ke (L:List Obj) (oid:Int) (w:Bool) (i:Nat):Key:=if w=true then cx (bd L ((bR L oid).slots.at i))else bd L ((bR L oid).slots.at i)
def E3 (S:CS) (f:Nat->Key):Nat->CS
 |0=>S
 |n+1=>ki (E3 S f n) (f n)
def fa (L:List Obj) (S:CS) (oid:Int) (w:Bool) (g:Int):CS:=E3 S (ke L oid w) g.toNat
def Da (k:Key):Key:=⟨5,k.oid,k.count,0,0,0⟩
def Dc (k:Key):Key:=⟨6,k.oid,k.count,0,0,0⟩
def xq (L:List Obj) (S:CS) (k:Key):CS:=if k.rights=0 then ki (fa L S k.oid (bE k) 16) (Da k)else fa L S k.oid (bE k) 16
def EC (L:List Obj) (S:CS) (k:Key):CS:=ki (fa L S k.oid false 16) (Dc k)
def Ck (L:List Obj) (S:CS) (k:Key):CS:=if k.kind=2 then xq L S k else if k.kind=5 then EC L S k else S
def qU (F:List Cp) (k:Key):List Cp:=if kh k=true/\eH F (a8 k)=false then F++ [a8 k]else F
def sI (F:List Cp) (f:Nat->Key):Nat->List Cp
 |0=>F
 |n+1=>qU (sI F f n) (f n)
def pd (L:List Obj) (F:List Cp) (oid:Int) (w:Bool) (g:Int):List Cp:=sI F (ke L oid w) g.toNat
def Iq (L:List Obj) (F:List Cp) (k:Key):List Cp:=if k.rights=0 then qU (pd L F k.oid (bE k) 16) (Da k)else pd L F k.oid (bE k) 16
def Jp (L:List Obj) (F:List Cp) (k:Key):List Cp:=qU (pd L F k.oid false 16) (Dc k)
def CT (L:List Obj) (F:List Cp) (k:Key):List Cp:=if k.kind=2 then Iq L F k else if k.kind=5 then Jp L F k else F
def di (F:List Cp) (n:Nat):Cp:=ay F n []
def fF (L:List Obj) (oid:Int):Nat->List Cp
 |0=>pd L [] oid false 16
 |n+1=>if n<(fF L oid n).length then CT L (fF L oid n) (cq (di (fF L oid n) n))else fF L oid n
def vN (L:List Obj) (oid:Int):List Cp:=fF L oid 10000
def fi (a b:Int):Int:=if a<b then -1 else if b<a then 1 else 0
def eD (a b:Key):Int:=if fi a.kind b.kind≠0 then fi a.kind b.kind else if fi a.oid b.oid≠0 then fi a.oid b.oid else if fi a.count b.count≠0 then fi a.count b.count else
 if fi a.call b.call≠0 then fi a.call b.call else if fi a.rights b.rights≠0 then fi a.rights b.rights else fi a.value b.value
def eE (a b:Cp):Bool:=decide (eD (cq a) (cq b)<0)
def qM (l:List Cp) (c:Cp):List Cp:=l.takeWhile (fun x=>eE x c)++c::l.dropWhile (fun x=>eE x c)
def ib (l:List Cp):List Cp:=l.foldl qM []
def dq (L:List Obj) (oid:Int):List Cp:=ib (vN L oid)
theorem sA {D:List (Cp×Int)} {c:Cp}:cE D c=true↔c∈D.map (·.1):=by
 unfold cE;simp[List.any_eq_true]
theorem BR {D:List (Cp×Int)} {c:Cp}:(aN D c).map (·.1)=if cE D c=true then D.map (·.1)else D.map (·.1)++ [c]:=by
 unfold aN;split<;>simp
theorem wO {D:List (Cp×Int)} {j:Nat} {v:Int}:(cj D j v).map (·.1)=D.map (·.1):=by
 unfold cj;rw[List.map_set];simp only;by_cases h:j<D.length
 ·have:(ay D j ([],0)).1=(D.map (·.1))[j]'(by simpa using h):=by simp[ay,Mz,h]
  rw[this,List.set_getElem_self]
 ·rw[List.set_eq_of_length_le (by simpa using Nat.le_of_not_lt h)]
theorem wN (S:CS) (c:Cp):(Js S c).1.map (·.1)=if c∈S.1.map (·.1)then S.1.map (·.1)else S.1.map (·.1)++ [c]:=by
 unfold Js;simp only[wO,BR,sA]
theorem nz (S:CS) (k:Key):(ki S k).1.map (·.1)=qU (S.1.map (·.1)) k:=by
 unfold ki qU eH;by_cases h:kh k=true
 ·simp only[h,if_true,wN,true_and,decide_eq_false_iff_not];by_cases hm:a8 k∈S.1.map (·.1)
  ·simp[hm]
  ·simp[hm]
 ·simp[h]
theorem B9 {D:List (Cp×Int)} {c:Cp} (h:cE D c=true):aT D c<D.length:=by
 unfold aT;rw[List.findIdx_lt_length];unfold cE at h;simpa[List.any_eq_true]using h
theorem sd {D:List (Cp×Int)} {c:Cp} (h:¬cE D c=true):aT D c=D.length:=by
 unfold aT;rw[List.findIdx_eq_length];unfold cE at h;simp only[List.any_eq_true,Mv,not_exists,not_and]at h;intro x hx;simpa using h x hx
theorem uC {D:List (Cp×Int)} {c:Cp} (h:¬cE D c=true):aV D c=0:=by
 unfold aV;rw[sd h];simp[ay,Mz]
theorem get_mem {D:List (Cp×Int)} {c:Cp} (h:cE D c=true):(ay D (aT D c) ([],0))∈D:=by
 have:=B9 h;simp[ay,Mz,this]
theorem uL {D:List (Cp×Int)} {c:Cp}:(aN D c).length=if cE D c=true then D.length else D.length+1:=by
 unfold aN;split<;>simp
theorem Di {D:List (Cp×Int)} {c:Cp}:aT D c<(aN D c).length:=by
 rw[uL];split
 ·exact B9 ‹_›
 ·rw[sd ‹_›];omega
theorem FZ {S:CS} {c:Cp} {n:Int} (h:kc S n):kc (Js S c) (n+1):=by
 obtain⟨h1,h2,h3⟩:=h;refine⟨?_,?_,fun p hp=>?_⟩
 ·show(((cj (aN S.1 c) (aT S.1 c) (aV S.1 c+1)).length:Nat):Int)<=n+1
  unfold cj;rw[List.length_set,uL];split<;>omega
 ·show(((if cE S.1 c=true then S.2 else bj S.2 c).length:Nat):Int)<=n+1
  split
  ·omega
  ·simp[bj];omega
 ·have hn:0<=n:=by omega
  have hg:0<=aV S.1 c/\aV S.1 c<=n:=by
   by_cases hh:cE S.1 c=true
   ·have:=h3 _ (get_mem hh);unfold aV;omega
   ·rw[uC hh];omega
  have hp:p∈(aN S.1 c).set (aT S.1 c) ((ay (aN S.1 c) (aT S.1 c) ([],0)).1,aV S.1 c+1):=hp;have hp0:=hp;rcases List.mem_or_eq_of_mem_set hp with hp|rfl
  ·unfold aN at hp;split at hp
   ·have:=h3 p hp;omega
   ·rename_i hno;rcases List.mem_append.1 hp with hp|hp
    ·have:=h3 p hp;omega
    ·exfalso
     obtain⟨j,hj,rfl⟩:=List.getElem_of_mem (l:=(aN S.1 c).set (aT S.1 c) ((ay (aN S.1 c) (aT S.1 c) ([],0)).1,aV S.1 c+1)) hp0;simp only[List.mem_singleton]at hp;rw[List.getElem_set]at hp;split at hp
     ·have:=congrArg Prod.snd hp;simp only at this;omega
     ·rename_i hne;rw[sd hno]at hne;have hlen:j<(aN S.1 c).length:=by simpa using hj
      rw[uL,MA hno]at hlen
      have:(aN S.1 c)[j]'(by simpa using hj)=S.1[j]'(by omega):=by
       have e:aN S.1 c=S.1++ [(c,0)]:=by unfold aN;rw[MA hno]
       simp only[e];rw[List.getElem_append_left]
      rw[this]at hp;have:=h3 _ (List.getElem_mem (by omega:j<S.1.length))
      rw[hp]at this;simp only at this;omega
  ·simp only;omega
theorem cN {S:CS} {n m:Int} (h:kc S n) (hm:n<=m):kc S m:=⟨by have:=h.1;omega,by have:=h.2.1;omega,fun p hp=>by have:=h.2.2 p hp;omega⟩
theorem u7 {S:CS} {k:Key} {n:Int} (h:kc S n):kc (ki S k) (n+1):=by
 unfold ki;split
 ·exact FZ h
 ·exact cN h (by omega)
theorem jZ {S:CS} {f:Nat->Key} {n:Int} (h:kc S n):∀g:Nat,kc (E3 S f g) (n+g)
 |0=>by simpa[E3]using h
 |g+1=>by
  have:=u7 (k:=f g) (jZ (f:=f) h g);exact cN this (by omega)
theorem za:kc ([],[]) 0:=⟨by simp,by simp,by simp⟩
end Go.Sx
