import Derived.Test.YtmfbohanboiklaaGreatKS
set_option linter.unusedSimpArgs false
set_option linter.unusedVariables false
namespace Go.Sx
abbrev Cp:=List Int
abbrev CS:=List (Cp×Int)×List Cp
def bu (k:Key):Cp:= [k.kind,k.oid,k.count,k.call,k.rights]
def cw (c:Cp):Key:=⟨aB c 0 0,aB c 1 0,aB c 2 0,aB c 3 0,aB c 4 0,0⟩
def kZ (k:Key):Bool:=decide (2<=k.kind)&&decide (k.kind<=10)
def xS (F:List Cp) (c:Cp):Bool:=decide (c∈F)
def Gz (S:CS) (c:Cp):CS:=(bN (aK S.1 c) (aO S.1 c) (aR S.1 c+1),if bX S.1 c=true then S.2 else bf S.2 c)
def ju (S:CS) (k:Key):CS:=if kZ k=true then Gz S (bu k)else S
def jg (S:CS) (n:Int):Prop:=(S.1.length:Int)<=n/\(S.2.length:Int)<=n/\∀p∈S.1,1<=p.2/\p.2<=n
def oQ (L:List Obj) (oid:Int) (w:Bool) (i:Nat):Key:=if w=true then cC (cL L ((bO L oid).slots.at i))else cL L ((bO L oid).slots.at i)
def Dd (S:CS) (f:Nat->Key):Nat->CS
 |0=>S
 |n+1=>ju (Dd S f n) (f n)
def eE (L:List Obj) (S:CS) (oid:Int) (w:Bool) (g:Int):CS:=Dd S (oQ L oid w) g.toNat
def Fk (k:Key):Key:=⟨5,k.oid,k.count,0,0,0⟩
def Ex (k:Key):Key:=⟨6,k.oid,k.count,0,0,0⟩
def vH (L:List Obj) (S:CS) (k:Key):CS:=if k.rights=0 then ju (eE L S k.oid (cV k) 16) (Fk k)else eE L S k.oid (cV k) 16
def Cv (L:List Obj) (S:CS) (k:Key):CS:=ju (eE L S k.oid false 16) (Ex k)
def zQ (L:List Obj) (S:CS) (k:Key):CS:=if k.kind=2 then vH L S k else if k.kind=5 then Cv L S k else S
def BL (F:List Cp) (k:Key):List Cp:=if kZ k=true/\xS F (bu k)=false then F++ [bu k]else F
def Db (F:List Cp) (f:Nat->Key):Nat->List Cp
 |0=>F
 |n+1=>BL (Db F f n) (f n)
def s9 (L:List Obj) (F:List Cp) (oid:Int) (w:Bool) (g:Int):List Cp:=Db F (oQ L oid w) g.toNat
def Hs (L:List Obj) (F:List Cp) (k:Key):List Cp:=if k.rights=0 then BL (s9 L F k.oid (cV k) 16) (Fk k)else s9 L F k.oid (cV k) 16
def GY (L:List Obj) (F:List Cp) (k:Key):List Cp:=BL (s9 L F k.oid false 16) (Ex k)
def Cq (L:List Obj) (F:List Cp) (k:Key):List Cp:=if k.kind=2 then Hs L F k else if k.kind=5 then GY L F k else F
def jo (F:List Cp) (n:Nat):Cp:=aB F n []
def hX (L:List Obj) (oid:Int):Nat->List Cp
 |0=>s9 L [] oid false 16
 |n+1=>if n<(hX L oid n).length then Cq L (hX L oid n) (cw (jo (hX L oid n) n))else hX L oid n
def Cy (L:List Obj) (oid:Int):List Cp:=hX L oid 10000
def eR (a b:Int):Int:=if a<b then -1 else if b<a then 1 else 0
def vG (a b:Key):Int:=if eR a.kind b.kind≠0 then eR a.kind b.kind else if eR a.oid b.oid≠0 then eR a.oid b.oid else if eR a.count b.count≠0 then eR a.count b.count else
 if eR a.call b.call≠0 then eR a.call b.call else if eR a.rights b.rights≠0 then eR a.rights b.rights else eR a.value b.value
def eQ (a b:Cp):Bool:=decide (vG (cw a) (cw b)<0)
def vr (l:List Cp) (c:Cp):List Cp:=l.takeWhile (fun x=>eQ x c)++c::l.dropWhile (fun x=>eQ x c)
def kg (l:List Cp):List Cp:=l.foldl vr []
def eT (L:List Obj) (oid:Int):List Cp:=kg (Cy L oid)
theorem pW {D:List (Cp×Int)} {c:Cp}:bX D c=true↔c∈D.map (·.1):=by
 unfold bX;simp[List.any_eq_true]
theorem BU {D:List (Cp×Int)} {c:Cp}:(aK D c).map (·.1)=if bX D c=true then D.map (·.1)else D.map (·.1)++ [c]:=by
 unfold aK;split<;>simp
theorem tU {D:List (Cp×Int)} {j:Nat} {v:Int}:(bN D j v).map (·.1)=D.map (·.1):=by
 unfold bN;rw[List.map_set];simp only;by_cases h:j<D.length
 ·have:(aB D j ([],0)).1=(D.map (·.1))[j]'(by simpa using h):=by simp[aB,JW,h]
  rw[this,List.set_getElem_self]
 ·rw[List.set_eq_of_length_le (by simpa using Nat.le_of_not_lt h)]
theorem uF (S:CS) (c:Cp):(Gz S c).1.map (·.1)=if c∈S.1.map (·.1)then S.1.map (·.1)else S.1.map (·.1)++ [c]:=by
 unfold Gz;simp only[tU,BU,pW]
theorem mR (S:CS) (k:Key):(ju S k).1.map (·.1)=BL (S.1.map (·.1)) k:=by
 unfold ju BL xS;by_cases h:kZ k=true
 ·simp only[h,if_true,uF,true_and,decide_eq_false_iff_not];by_cases hm:bu k∈S.1.map (·.1)
  ·simp[hm]
  ·simp[hm]
 ·simp[h]
theorem AF {D:List (Cp×Int)} {c:Cp} (h:bX D c=true):aO D c<D.length:=by
 unfold aO;rw[List.findIdx_lt_length];unfold bX at h;simpa[List.any_eq_true]using h
theorem qR {D:List (Cp×Int)} {c:Cp} (h:¬bX D c=true):aO D c=D.length:=by
 unfold aO;rw[List.findIdx_eq_length];unfold bX at h;simp only[List.any_eq_true,JS,not_exists,not_and]at h;intro x hx;simpa using h x hx
theorem tB {D:List (Cp×Int)} {c:Cp} (h:¬bX D c=true):aR D c=0:=by
 unfold aR;rw[qR h];simp[aB,JW]
theorem get_mem {D:List (Cp×Int)} {c:Cp} (h:bX D c=true):(aB D (aO D c) ([],0))∈D:=by
 have:=AF h;simp[aB,JW,this]
theorem tA {D:List (Cp×Int)} {c:Cp}:(aK D c).length=if bX D c=true then D.length else D.length+1:=by
 unfold aK;split<;>simp
theorem Bg {D:List (Cp×Int)} {c:Cp}:aO D c<(aK D c).length:=by
 rw[tA];split
 ·exact AF ‹_›
 ·rw[qR ‹_›];omega
theorem DN {S:CS} {c:Cp} {n:Int} (h:jg S n):jg (Gz S c) (n+1):=by
 obtain⟨h1,h2,h3⟩:=h;refine⟨?_,?_,fun p hp=>?_⟩
 ·show(((bN (aK S.1 c) (aO S.1 c) (aR S.1 c+1)).length:Nat):Int)<=n+1
  unfold bN;rw[List.length_set,tA];split<;>omega
 ·show(((if bX S.1 c=true then S.2 else bf S.2 c).length:Nat):Int)<=n+1
  split
  ·omega
  ·simp[bf];omega
 ·have hn:0<=n:=by omega
  have hg:0<=aR S.1 c/\aR S.1 c<=n:=by
   by_cases hh:bX S.1 c=true
   ·have:=h3 _ (get_mem hh);unfold aR;omega
   ·rw[tB hh];omega
  have hp:p∈(aK S.1 c).set (aO S.1 c) ((aB (aK S.1 c) (aO S.1 c) ([],0)).1,aR S.1 c+1):=hp;have hp0:=hp;rcases List.mem_or_eq_of_mem_set hp with hp|rfl
  ·unfold aK at hp;split at hp
   ·have:=h3 p hp;omega
   ·rename_i hno;rcases List.mem_append.1 hp with hp|hp
    ·have:=h3 p hp;omega
    ·exfalso
     obtain⟨j,hj,rfl⟩:=List.getElem_of_mem (l:=(aK S.1 c).set (aO S.1 c) ((aB (aK S.1 c) (aO S.1 c) ([],0)).1,aR S.1 c+1)) hp0;simp only[List.mem_singleton]at hp;rw[List.getElem_set]at hp;split at hp
     ·have:=congrArg Prod.snd hp;simp only at this;omega
     ·rename_i hne;rw[qR hno]at hne;have hlen:j<(aK S.1 c).length:=by simpa using hj
      rw[tA,JX hno]at hlen
      have:(aK S.1 c)[j]'(by simpa using hj)=S.1[j]'(by omega):=by
       have e:aK S.1 c=S.1++ [(c,0)]:=by unfold aK;rw[JX hno]
       simp only[e];rw[List.getElem_append_left]
      rw[this]at hp;have:=h3 _ (List.getElem_mem (by omega:j<S.1.length))
      rw[hp]at this;simp only at this;omega
  ·simp only;omega
theorem ck {S:CS} {n m:Int} (h:jg S n) (hm:n<=m):jg S m:=⟨by have:=h.1;omega,by have:=h.2.1;omega,fun p hp=>by have:=h.2.2 p hp;omega⟩
theorem tt {S:CS} {k:Key} {n:Int} (h:jg S n):jg (ju S k) (n+1):=by
 unfold ju;split
 ·exact DN h
 ·exact ck h (by omega)
theorem iM {S:CS} {f:Nat->Key} {n:Int} (h:jg S n):∀g:Nat,jg (Dd S f g) (n+g)
 |0=>by simpa[Dd]using h
 |g+1=>by
  have:=tt (k:=f g) (iM (f:=f) h g);exact ck this (by omega)
theorem w8:jg ([],[]) 0:=⟨by simp,by simp,by simp⟩
end Go.Sx
