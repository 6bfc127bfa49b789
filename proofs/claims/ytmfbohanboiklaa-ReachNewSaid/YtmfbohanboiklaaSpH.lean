import Derived.Test.YtmfbohanboiklaaKS
set_option linter.unusedSimpArgs false
set_option linter.unusedVariables false
namespace Go.Sx
abbrev Cp:=List Int
abbrev CS:=List (Cp×Int)×List Cp
def bd (k:Key):Cp:= [k.kind,k.oid,k.count,k.call,k.rights]
def bc (c:Cp):Key:=⟨ay c 0 0,ay c 1 0,ay c 2 0,ay c 3 0,ay c 4 0,0⟩
def kU (k:Key):Bool:=decide (2<=k.kind)&&decide (k.kind<=10)
def fb (F:List Cp) (c:Cp):Bool:=decide (c∈F)
def KR (S:CS) (c:Cp):CS:=(cB (aS S.1 c) (aZ S.1 c) (ba S.1 c+1),if cR S.1 c=true then S.2 else bg S.2 c)
def kW (S:CS) (k:Key):CS:=if kU k=true then KR S (bd k)else S
def kN (S:CS) (n:Int):Prop:=(S.1.length:Int)<=n/\(S.2.length:Int)<=n/\∀p∈S.1,1<=p.2/\p.2<=n
def kM (L:List Obj) (oid:Int) (w:Bool) (i:Nat):Key:=if w=true then cE (bp L ((bm L oid).slots.at i))else bp L ((bm L oid).slots.at i)
def Hg (S:CS) (f:Nat->Key):Nat->CS
 |0=>S
 |n+1=>kW (Hg S f n) (f n)
def fB (L:List Obj) (S:CS) (oid:Int) (w:Bool) (g:Int):CS:=Hg S (kM L oid w) g.toNat
def D9 (k:Key):Key:=⟨5,k.oid,k.count,0,0,0⟩
def Fs (k:Key):Key:=⟨6,k.oid,k.count,0,0,0⟩
def yk (L:List Obj) (S:CS) (k:Key):CS:=if k.rights=0 then kW (fB L S k.oid (bJ k) 16) (D9 k)else fB L S k.oid (bJ k) 16
def FJ (L:List Obj) (S:CS) (k:Key):CS:=kW (fB L S k.oid false 16) (Fs k)
def C4 (L:List Obj) (S:CS) (k:Key):CS:=if k.kind=2 then yk L S k else if k.kind=5 then FJ L S k else S
def sg (F:List Cp) (k:Key):List Cp:=if kU k=true/\fb F (bd k)=false then F++ [bd k]else F
def tx (F:List Cp) (f:Nat->Key):Nat->List Cp
 |0=>F
 |n+1=>sg (tx F f n) (f n)
def oC (L:List Obj) (F:List Cp) (oid:Int) (w:Bool) (g:Int):List Cp:=tx F (kM L oid w) g.toNat
def I3 (L:List Obj) (F:List Cp) (k:Key):List Cp:=if k.rights=0 then sg (oC L F k.oid (bJ k) 16) (D9 k)else oC L F k.oid (bJ k) 16
def KV (L:List Obj) (F:List Cp) (k:Key):List Cp:=sg (oC L F k.oid false 16) (Fs k)
def C8 (L:List Obj) (F:List Cp) (k:Key):List Cp:=if k.kind=2 then I3 L F k else if k.kind=5 then KV L F k else F
def cw (F:List Cp) (n:Nat):Cp:=ay F n []
def fc (L:List Obj) (oid:Int):Nat->List Cp
 |0=>oC L [] oid false 16
 |n+1=>if n<(fc L oid n).length then C8 L (fc L oid n) (bc (cw (fc L oid n) n))else fc L oid n
def ny (L:List Obj) (oid:Int):List Cp:=fc L oid 10000
def fF (a b:Int):Int:=if a<b then -1 else if b<a then 1 else 0
def eQ (a b:Key):Int:=if fF a.kind b.kind≠0 then fF a.kind b.kind else if fF a.oid b.oid≠0 then fF a.oid b.oid else if fF a.count b.count≠0 then fF a.count b.count else
 if fF a.call b.call≠0 then fF a.call b.call else if fF a.rights b.rights≠0 then fF a.rights b.rights else fF a.value b.value
def eU (a b:Cp):Bool:=decide (eQ (bc a) (bc b)<0)
def rz (l:List Cp) (c:Cp):List Cp:=l.takeWhile (fun x=>eU x c)++c::l.dropWhile (fun x=>eU x c)
def ia (l:List Cp):List Cp:=l.foldl rz []
def ah (L:List Obj) (oid:Int):List Cp:=ia (ny L oid)
theorem sY {D:List (Cp×Int)} {c:Cp}:cR D c=true↔c∈D.map (·.1):=by
 unfold cR;simp[List.any_eq_true]
theorem Fg {D:List (Cp×Int)} {c:Cp}:(aS D c).map (·.1)=if cR D c=true then D.map (·.1)else D.map (·.1)++ [c]:=by
 unfold aS;split<;>simp
theorem xa {D:List (Cp×Int)} {j:Nat} {v:Int}:(cB D j v).map (·.1)=D.map (·.1):=by
 unfold cB;rw[List.map_set];simp only;by_cases h:j<D.length
 ·have:(ay D j ([],0)).1=(D.map (·.1))[j]'(by simpa using h):=by simp[ay,N8,h]
  rw[this,List.set_getElem_self]
 ·rw[List.set_eq_of_length_le (by simpa using Nat.le_of_not_lt h)]
theorem xR (S:CS) (c:Cp):(KR S c).1.map (·.1)=if c∈S.1.map (·.1)then S.1.map (·.1)else S.1.map (·.1)++ [c]:=by
 unfold KR;simp only[xa,Fg,sY]
theorem nW (S:CS) (k:Key):(kW S k).1.map (·.1)=sg (S.1.map (·.1)) k:=by
 unfold kW sg fb;by_cases h:kU k=true
 ·simp only[h,if_true,xR,true_and,decide_eq_false_iff_not];by_cases hm:bd k∈S.1.map (·.1)
  ·simp[hm]
  ·simp[hm]
 ·simp[h]
theorem DT {D:List (Cp×Int)} {c:Cp} (h:cR D c=true):aZ D c<D.length:=by
 unfold aZ;rw[List.findIdx_lt_length];unfold cR at h;simpa[List.any_eq_true]using h
theorem sr {D:List (Cp×Int)} {c:Cp} (h:¬cR D c=true):aZ D c=D.length:=by
 unfold aZ;rw[List.findIdx_eq_length];unfold cR at h;simp only[List.any_eq_true,N4,not_exists,not_and]at h;intro x hx;simpa using h x hx
theorem ve {D:List (Cp×Int)} {c:Cp} (h:¬cR D c=true):ba D c=0:=by
 unfold ba;rw[sr h];simp[ay,N8]
theorem get_mem {D:List (Cp×Int)} {c:Cp} (h:cR D c=true):(ay D (aZ D c) ([],0))∈D:=by
 have:=DT h;simp[ay,N8,this]
theorem vU {D:List (Cp×Int)} {c:Cp}:(aS D c).length=if cR D c=true then D.length else D.length+1:=by
 unfold aS;split<;>simp
theorem Fx {D:List (Cp×Int)} {c:Cp}:aZ D c<(aS D c).length:=by
 rw[vU];split
 ·exact DT ‹_›
 ·rw[sr ‹_›];omega
theorem Gx {S:CS} {c:Cp} {n:Int} (h:kN S n):kN (KR S c) (n+1):=by
 obtain⟨h1,h2,h3⟩:=h;refine⟨?_,?_,fun p hp=>?_⟩
 ·show(((cB (aS S.1 c) (aZ S.1 c) (ba S.1 c+1)).length:Nat):Int)<=n+1
  unfold cB;rw[List.length_set,vU];split<;>omega
 ·show(((if cR S.1 c=true then S.2 else bg S.2 c).length:Nat):Int)<=n+1
  split
  ·omega
  ·simp[bg];omega
 ·have hn:0<=n:=by omega
  have hg:0<=ba S.1 c/\ba S.1 c<=n:=by
   by_cases hh:cR S.1 c=true
   ·have:=h3 _ (get_mem hh);unfold ba;omega
   ·rw[ve hh];omega
  have hp:p∈(aS S.1 c).set (aZ S.1 c) ((ay (aS S.1 c) (aZ S.1 c) ([],0)).1,ba S.1 c+1):=hp;have hp0:=hp;rcases List.mem_or_eq_of_mem_set hp with hp|rfl
  ·unfold aS at hp;split at hp
   ·have:=h3 p hp;omega
   ·rename_i hno;rcases List.mem_append.1 hp with hp|hp
    ·have:=h3 p hp;omega
    ·exfalso
     obtain⟨j,hj,rfl⟩:=List.getElem_of_mem (l:=(aS S.1 c).set (aZ S.1 c) ((ay (aS S.1 c) (aZ S.1 c) ([],0)).1,ba S.1 c+1)) hp0;simp only[List.mem_singleton]at hp;rw[List.getElem_set]at hp;split at hp
     ·have:=congrArg Prod.snd hp;simp only at this;omega
     ·rename_i hne;rw[sr hno]at hne;have hlen:j<(aS S.1 c).length:=by simpa using hj
      rw[vU,N9 hno]at hlen
      have:(aS S.1 c)[j]'(by simpa using hj)=S.1[j]'(by omega):=by
       have e:aS S.1 c=S.1++ [(c,0)]:=by unfold aS;rw[N9 hno]
       simp only[e];rw[List.getElem_append_left]
      rw[this]at hp;have:=h3 _ (List.getElem_mem (by omega:j<S.1.length))
      rw[hp]at this;simp only at this;omega
  ·simp only;omega
theorem c8 {S:CS} {n m:Int} (h:kN S n) (hm:n<=m):kN S m:=⟨by have:=h.1;omega,by have:=h.2.1;omega,fun p hp=>by have:=h.2.2 p hp;omega⟩
theorem vA {S:CS} {k:Key} {n:Int} (h:kN S n):kN (kW S k) (n+1):=by
 unfold kW;split
 ·exact Gx h
 ·exact c8 h (by omega)
theorem j3 {S:CS} {f:Nat->Key} {n:Int} (h:kN S n):∀g:Nat,kN (Hg S f g) (n+g)
 |0=>by simpa[Hg]using h
 |g+1=>by
  have:=vA (k:=f g) (j3 (f:=f) h g);exact c8 this (by omega)
theorem Am:kN ([],[]) 0:=⟨by simp,by simp,by simp⟩
end Go.Sx
