import Derived.Test.YtmfbohanboiklaaKS
set_option linter.unusedSimpArgs false
set_option linter.unusedVariables false
namespace Go.Sx
abbrev Cp:=List Int
abbrev CS:=List (Cp×Int)×List Cp
def bc (k:Key):Cp:= [k.kind,k.oid,k.count,k.call,k.rights]
def bP (c:Cp):Key:=⟨aq c 0 0,aq c 1 0,aq c 2 0,aq c 3 0,aq c 4 0,0⟩
def gq (k:Key):Bool:=decide (2<=k.kind)&&decide (k.kind<=10)
def eR (F:List Cp) (c:Cp):Bool:=decide (c∈F)
def KB (S:CS) (c:Cp):CS:=(cz (aR S.1 c) (aY S.1 c) (bf S.1 c+1),if cQ S.1 c=true then S.2 else bg S.2 c)
def kK (S:CS) (k:Key):CS:=if gq k=true then KB S (bc k)else S
def kG (S:CS) (n:Int):Prop:=(S.1.length:Int)<=n/\(S.2.length:Int)<=n/\∀p∈S.1,1<=p.2/\p.2<=n
def iH (L:List Obj) (oid:Int) (w:Bool) (i:Nat):Key:=if w=true then cD (aT L ((bS L oid).slots.at i))else aT L ((bS L oid).slots.at i)
def HU (S:CS) (f:Nat->Key):Nat->CS
 |0=>S
 |n+1=>kK (HU S f n) (f n)
def fo (L:List Obj) (S:CS) (oid:Int) (w:Bool) (g:Int):CS:=HU S (iH L oid w) g.toNat
def DS (k:Key):Key:=⟨5,k.oid,k.count,0,0,0⟩
def D6 (k:Key):Key:=⟨6,k.oid,k.count,0,0,0⟩
def yn (L:List Obj) (S:CS) (k:Key):CS:=if k.rights=0 then kK (fo L S k.oid (br k) 16) (DS k)else fo L S k.oid (br k) 16
def FI (L:List Obj) (S:CS) (k:Key):CS:=kK (fo L S k.oid false 16) (D6 k)
def EI (L:List Obj) (S:CS) (k:Key):CS:=if k.kind=2 then yn L S k else if k.kind=5 then FI L S k else S
def tj (F:List Cp) (k:Key):List Cp:=if gq k=true/\eR F (bc k)=false then F++ [bc k]else F
def tx (F:List Cp) (f:Nat->Key):Nat->List Cp
 |0=>F
 |n+1=>tj (tx F f n) (f n)
def oi (L:List Obj) (F:List Cp) (oid:Int) (w:Bool) (g:Int):List Cp:=tx F (iH L oid w) g.toNat
def J6 (L:List Obj) (F:List Cp) (k:Key):List Cp:=if k.rights=0 then tj (oi L F k.oid (br k) 16) (DS k)else oi L F k.oid (br k) 16
def Kx (L:List Obj) (F:List Cp) (k:Key):List Cp:=tj (oi L F k.oid false 16) (D6 k)
def Fb (L:List Obj) (F:List Cp) (k:Key):List Cp:=if k.kind=2 then J6 L F k else if k.kind=5 then Kx L F k else F
def cJ (F:List Cp) (n:Nat):Cp:=aq F n []
def fc (L:List Obj) (oid:Int):Nat->List Cp
 |0=>oi L [] oid false 16
 |n+1=>if n<(fc L oid n).length then Fb L (fc L oid n) (bP (cJ (fc L oid n) n))else fc L oid n
def la (L:List Obj) (oid:Int):List Cp:=fc L oid 10000
def fw (a b:Int):Int:=if a<b then -1 else if b<a then 1 else 0
def eL (a b:Key):Int:=if fw a.kind b.kind≠0 then fw a.kind b.kind else if fw a.oid b.oid≠0 then fw a.oid b.oid else if fw a.count b.count≠0 then fw a.count b.count else
 if fw a.call b.call≠0 then fw a.call b.call else if fw a.rights b.rights≠0 then fw a.rights b.rights else fw a.value b.value
def eP (a b:Cp):Bool:=decide (eL (bP a) (bP b)<0)
def rH (l:List Cp) (c:Cp):List Cp:=l.takeWhile (fun x=>eP x c)++c::l.dropWhile (fun x=>eP x c)
def gJ (l:List Cp):List Cp:=l.foldl rH []
def aI (L:List Obj) (oid:Int):List Cp:=gJ (la L oid)
theorem r7 {D:List (Cp×Int)} {c:Cp}:cQ D c=true↔c∈D.map (·.1):=by
 unfold cQ;simp[List.any_eq_true]
theorem EJ {D:List (Cp×Int)} {c:Cp}:(aR D c).map (·.1)=if cQ D c=true then D.map (·.1)else D.map (·.1)++ [c]:=by
 unfold aR;split<;>simp
theorem xp {D:List (Cp×Int)} {j:Nat} {v:Int}:(cz D j v).map (·.1)=D.map (·.1):=by
 unfold cz;rw[List.map_set];simp only;by_cases h:j<D.length
 ·have:(aq D j ([],0)).1=(D.map (·.1))[j]'(by simpa using h):=by simp[aq,NV,h]
  rw[this,List.set_getElem_self]
 ·rw[List.set_eq_of_length_le (by simpa using Nat.le_of_not_lt h)]
theorem xq (S:CS) (c:Cp):(KB S c).1.map (·.1)=if c∈S.1.map (·.1)then S.1.map (·.1)else S.1.map (·.1)++ [c]:=by
 unfold KB;simp only[xp,EJ,r7]
theorem pd (S:CS) (k:Key):(kK S k).1.map (·.1)=tj (S.1.map (·.1)) k:=by
 unfold kK tj eR;by_cases h:gq k=true
 ·simp only[h,if_true,xq,true_and,decide_eq_false_iff_not];by_cases hm:bc k∈S.1.map (·.1)
  ·simp[hm]
  ·simp[hm]
 ·simp[h]
theorem E4 {D:List (Cp×Int)} {c:Cp} (h:cQ D c=true):aY D c<D.length:=by
 unfold aY;rw[List.findIdx_lt_length];unfold cQ at h;simpa[List.any_eq_true]using h
theorem tn {D:List (Cp×Int)} {c:Cp} (h:¬cQ D c=true):aY D c=D.length:=by
 unfold aY;rw[List.findIdx_eq_length];unfold cQ at h;simp only[List.any_eq_true,NQ,not_exists,not_and]at h;intro x hx;simpa using h x hx
theorem wa {D:List (Cp×Int)} {c:Cp} (h:¬cQ D c=true):bf D c=0:=by
 unfold bf;rw[tn h];simp[aq,NV]
theorem get_mem {D:List (Cp×Int)} {c:Cp} (h:cQ D c=true):(aq D (aY D c) ([],0))∈D:=by
 have:=E4 h;simp[aq,NV,this]
theorem vb {D:List (Cp×Int)} {c:Cp}:(aR D c).length=if cQ D c=true then D.length else D.length+1:=by
 unfold aR;split<;>simp
theorem Fq {D:List (Cp×Int)} {c:Cp}:aY D c<(aR D c).length:=by
 rw[vb];split
 ·exact E4 ‹_›
 ·rw[tn ‹_›];omega
theorem Gz {S:CS} {c:Cp} {n:Int} (h:kG S n):kG (KB S c) (n+1):=by
 obtain⟨h1,h2,h3⟩:=h;refine⟨?_,?_,fun p hp=>?_⟩
 ·show(((cz (aR S.1 c) (aY S.1 c) (bf S.1 c+1)).length:Nat):Int)<=n+1
  unfold cz;rw[List.length_set,vb];split<;>omega
 ·show(((if cQ S.1 c=true then S.2 else bg S.2 c).length:Nat):Int)<=n+1
  split
  ·omega
  ·simp[bg];omega
 ·have hn:0<=n:=by omega
  have hg:0<=bf S.1 c/\bf S.1 c<=n:=by
   by_cases hh:cQ S.1 c=true
   ·have:=h3 _ (get_mem hh);unfold bf;omega
   ·rw[wa hh];omega
  have hp:p∈(aR S.1 c).set (aY S.1 c) ((aq (aR S.1 c) (aY S.1 c) ([],0)).1,bf S.1 c+1):=hp;have hp0:=hp;rcases List.mem_or_eq_of_mem_set hp with hp|rfl
  ·unfold aR at hp;split at hp
   ·have:=h3 p hp;omega
   ·rename_i hno;rcases List.mem_append.1 hp with hp|hp
    ·have:=h3 p hp;omega
    ·exfalso
     obtain⟨j,hj,rfl⟩:=List.getElem_of_mem (l:=(aR S.1 c).set (aY S.1 c) ((aq (aR S.1 c) (aY S.1 c) ([],0)).1,bf S.1 c+1)) hp0;simp only[List.mem_singleton]at hp;rw[List.getElem_set]at hp;split at hp
     ·have:=congrArg Prod.snd hp;simp only at this;omega
     ·rename_i hne;rw[tn hno]at hne;have hlen:j<(aR S.1 c).length:=by simpa using hj
      rw[vb,NW hno]at hlen
      have:(aR S.1 c)[j]'(by simpa using hj)=S.1[j]'(by omega):=by
       have e:aR S.1 c=S.1++ [(c,0)]:=by unfold aR;rw[NW hno]
       simp only[e];rw[List.getElem_append_left]
      rw[this]at hp;have:=h3 _ (List.getElem_mem (by omega:j<S.1.length))
      rw[hp]at this;simp only at this;omega
  ·simp only;omega
theorem c8 {S:CS} {n m:Int} (h:kG S n) (hm:n<=m):kG S m:=⟨by have:=h.1;omega,by have:=h.2.1;omega,fun p hp=>by have:=h.2.2 p hp;omega⟩
theorem vQ {S:CS} {k:Key} {n:Int} (h:kG S n):kG (kK S k) (n+1):=by
 unfold kK;split
 ·exact Gz h
 ·exact c8 h (by omega)
theorem kb {S:CS} {f:Nat->Key} {n:Int} (h:kG S n):∀g:Nat,kG (HU S f g) (n+g)
 |0=>by simpa[HU]using h
 |g+1=>by
  have:=vQ (k:=f g) (kb (f:=f) h g);exact c8 this (by omega)
theorem Ay:kG ([],[]) 0:=⟨by simp,by simp,by simp⟩
end Go.Sx
