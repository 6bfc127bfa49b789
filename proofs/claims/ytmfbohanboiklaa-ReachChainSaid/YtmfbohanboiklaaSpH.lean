import Derived.Test.YtmfbohanboiklaaKS
set_option linter.unusedSimpArgs false
set_option linter.unusedVariables false
namespace Go.Sx
abbrev Cp:=List Int
abbrev CS:=List (Cp×Int)×List Cp
def bd (k:Key):Cp:= [k.kind,k.oid,k.count,k.call,k.rights]
def bX (c:Cp):Key:=⟨au c 0 0,au c 1 0,au c 2 0,au c 3 0,au c 4 0,0⟩
def gJ (k:Key):Bool:=decide (2<=k.kind)&&decide (k.kind<=10)
def eN (F:List Cp) (c:Cp):Bool:=decide (c∈F)
def JX (S:CS) (c:Cp):CS:=(cq (aQ S.1 c) (aV S.1 c) (aZ S.1 c+1),if cI S.1 c=true then S.2 else ba S.2 c)
def kz (S:CS) (k:Key):CS:=if gJ k=true then JX S (bd k)else S
def kp (S:CS) (n:Int):Prop:=(S.1.length:Int)<=n/\(S.2.length:Int)<=n/\∀p∈S.1,1<=p.2/\p.2<=n
def jj (L:List Obj) (oid:Int) (w:Bool) (i:Nat):Key:=if w=true then cz (bc L ((bS L oid).slots.at i))else bc L ((bS L oid).slots.at i)
def Hg (S:CS) (f:Nat->Key):Nat->CS
 |0=>S
 |n+1=>kz (Hg S f n) (f n)
def fi (L:List Obj) (S:CS) (oid:Int) (w:Bool) (g:Int):CS:=Hg S (jj L oid w) g.toNat
def Eo (k:Key):Key:=⟨5,k.oid,k.count,0,0,0⟩
def Cx (k:Key):Key:=⟨6,k.oid,k.count,0,0,0⟩
def xY (L:List Obj) (S:CS) (k:Key):CS:=if k.rights=0 then kz (fi L S k.oid (bq k) 16) (Eo k)else fi L S k.oid (bq k) 16
def Fc (L:List Obj) (S:CS) (k:Key):CS:=kz (fi L S k.oid false 16) (Cx k)
def Dz (L:List Obj) (S:CS) (k:Key):CS:=if k.kind=2 then xY L S k else if k.kind=5 then Fc L S k else S
def rJ (F:List Cp) (k:Key):List Cp:=if gJ k=true/\eN F (bd k)=false then F++ [bd k]else F
def td (F:List Cp) (f:Nat->Key):Nat->List Cp
 |0=>F
 |n+1=>rJ (td F f n) (f n)
def ou (L:List Obj) (F:List Cp) (oid:Int) (w:Bool) (g:Int):List Cp:=td F (jj L oid w) g.toNat
def Ii (L:List Obj) (F:List Cp) (k:Key):List Cp:=if k.rights=0 then rJ (ou L F k.oid (bq k) 16) (Eo k)else ou L F k.oid (bq k) 16
def JW (L:List Obj) (F:List Cp) (k:Key):List Cp:=rJ (ou L F k.oid false 16) (Cx k)
def Ev (L:List Obj) (F:List Cp) (k:Key):List Cp:=if k.kind=2 then Ii L F k else if k.kind=5 then JW L F k else F
def cT (F:List Cp) (n:Nat):Cp:=au F n []
def eV (L:List Obj) (oid:Int):Nat->List Cp
 |0=>ou L [] oid false 16
 |n+1=>if n<(eV L oid n).length then Ev L (eV L oid n) (bX (cT (eV L oid n) n))else eV L oid n
def nk (L:List Obj) (oid:Int):List Cp:=eV L oid 10000
def ft (a b:Int):Int:=if a<b then -1 else if b<a then 1 else 0
def eH (a b:Key):Int:=if ft a.kind b.kind≠0 then ft a.kind b.kind else if ft a.oid b.oid≠0 then ft a.oid b.oid else if ft a.count b.count≠0 then ft a.count b.count else
 if ft a.call b.call≠0 then ft a.call b.call else if ft a.rights b.rights≠0 then ft a.rights b.rights else ft a.value b.value
def eK (a b:Cp):Bool:=decide (eH (bX a) (bX b)<0)
def rF (l:List Cp) (c:Cp):List Cp:=l.takeWhile (fun x=>eK x c)++c::l.dropWhile (fun x=>eK x c)
def gX (l:List Cp):List Cp:=l.foldl rF []
def dt (L:List Obj) (oid:Int):List Cp:=gX (nk L oid)
theorem sV {D:List (Cp×Int)} {c:Cp}:cI D c=true↔c∈D.map (·.1):=by
 unfold cI;simp[List.any_eq_true]
theorem C9 {D:List (Cp×Int)} {c:Cp}:(aQ D c).map (·.1)=if cI D c=true then D.map (·.1)else D.map (·.1)++ [c]:=by
 unfold aQ;split<;>simp
theorem wF {D:List (Cp×Int)} {j:Nat} {v:Int}:(cq D j v).map (·.1)=D.map (·.1):=by
 unfold cq;rw[List.map_set];simp only;by_cases h:j<D.length
 ·have:(au D j ([],0)).1=(D.map (·.1))[j]'(by simpa using h):=by simp[au,Nd,h]
  rw[this,List.set_getElem_self]
 ·rw[List.set_eq_of_length_le (by simpa using Nat.le_of_not_lt h)]
theorem xH (S:CS) (c:Cp):(JX S c).1.map (·.1)=if c∈S.1.map (·.1)then S.1.map (·.1)else S.1.map (·.1)++ [c]:=by
 unfold JX;simp only[wF,C9,sV]
theorem nG (S:CS) (k:Key):(kz S k).1.map (·.1)=rJ (S.1.map (·.1)) k:=by
 unfold kz rJ eN;by_cases h:gJ k=true
 ·simp only[h,if_true,xH,true_and,decide_eq_false_iff_not];by_cases hm:bd k∈S.1.map (·.1)
  ·simp[hm]
  ·simp[hm]
 ·simp[h]
theorem Dg {D:List (Cp×Int)} {c:Cp} (h:cI D c=true):aV D c<D.length:=by
 unfold aV;rw[List.findIdx_lt_length];unfold cI at h;simpa[List.any_eq_true]using h
theorem ri {D:List (Cp×Int)} {c:Cp} (h:¬cI D c=true):aV D c=D.length:=by
 unfold aV;rw[List.findIdx_eq_length];unfold cI at h;simp only[List.any_eq_true,M9,not_exists,not_and]at h;intro x hx;simpa using h x hx
theorem vE {D:List (Cp×Int)} {c:Cp} (h:¬cI D c=true):aZ D c=0:=by
 unfold aZ;rw[ri h];simp[au,Nd]
theorem get_mem {D:List (Cp×Int)} {c:Cp} (h:cI D c=true):(au D (aV D c) ([],0))∈D:=by
 have:=Dg h;simp[au,Nd,this]
theorem vq {D:List (Cp×Int)} {c:Cp}:(aQ D c).length=if cI D c=true then D.length else D.length+1:=by
 unfold aQ;split<;>simp
theorem Fa {D:List (Cp×Int)} {c:Cp}:aV D c<(aQ D c).length:=by
 rw[vq];split
 ·exact Dg ‹_›
 ·rw[ri ‹_›];omega
theorem Gy {S:CS} {c:Cp} {n:Int} (h:kp S n):kp (JX S c) (n+1):=by
 obtain⟨h1,h2,h3⟩:=h;refine⟨?_,?_,fun p hp=>?_⟩
 ·show(((cq (aQ S.1 c) (aV S.1 c) (aZ S.1 c+1)).length:Nat):Int)<=n+1
  unfold cq;rw[List.length_set,vq];split<;>omega
 ·show(((if cI S.1 c=true then S.2 else ba S.2 c).length:Nat):Int)<=n+1
  split
  ·omega
  ·simp[ba];omega
 ·have hn:0<=n:=by omega
  have hg:0<=aZ S.1 c/\aZ S.1 c<=n:=by
   by_cases hh:cI S.1 c=true
   ·have:=h3 _ (get_mem hh);unfold aZ;omega
   ·rw[vE hh];omega
  have hp:p∈(aQ S.1 c).set (aV S.1 c) ((au (aQ S.1 c) (aV S.1 c) ([],0)).1,aZ S.1 c+1):=hp;have hp0:=hp;rcases List.mem_or_eq_of_mem_set hp with hp|rfl
  ·unfold aQ at hp;split at hp
   ·have:=h3 p hp;omega
   ·rename_i hno;rcases List.mem_append.1 hp with hp|hp
    ·have:=h3 p hp;omega
    ·exfalso
     obtain⟨j,hj,rfl⟩:=List.getElem_of_mem (l:=(aQ S.1 c).set (aV S.1 c) ((au (aQ S.1 c) (aV S.1 c) ([],0)).1,aZ S.1 c+1)) hp0;simp only[List.mem_singleton]at hp;rw[List.getElem_set]at hp;split at hp
     ·have:=congrArg Prod.snd hp;simp only at this;omega
     ·rename_i hne;rw[ri hno]at hne;have hlen:j<(aQ S.1 c).length:=by simpa using hj
      rw[vq,Nf hno]at hlen
      have:(aQ S.1 c)[j]'(by simpa using hj)=S.1[j]'(by omega):=by
       have e:aQ S.1 c=S.1++ [(c,0)]:=by unfold aQ;rw[Nf hno]
       simp only[e];rw[List.getElem_append_left]
      rw[this]at hp;have:=h3 _ (List.getElem_mem (by omega:j<S.1.length))
      rw[hp]at this;simp only at this;omega
  ·simp only;omega
theorem cX {S:CS} {n m:Int} (h:kp S n) (hm:n<=m):kp S m:=⟨by have:=h.1;omega,by have:=h.2.1;omega,fun p hp=>by have:=h.2.2 p hp;omega⟩
theorem vA {S:CS} {k:Key} {n:Int} (h:kp S n):kp (kz S k) (n+1):=by
 unfold kz;split
 ·exact Gy h
 ·exact cX h (by omega)
theorem kf {S:CS} {f:Nat->Key} {n:Int} (h:kp S n):∀g:Nat,kp (Hg S f g) (n+g)
 |0=>by simpa[Hg]using h
 |g+1=>by
  have:=vA (k:=f g) (kf (f:=f) h g);exact cX this (by omega)
theorem Az:kp ([],[]) 0:=⟨by simp,by simp,by simp⟩
end Go.Sx
