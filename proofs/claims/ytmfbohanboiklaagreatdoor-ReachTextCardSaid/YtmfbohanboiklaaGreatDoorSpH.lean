import Derived.Test.YtmfbohanboiklaaGreatDoorKS
set_option linter.unusedSimpArgs false
set_option linter.unusedVariables false
namespace Go.Sx
abbrev Cp:=List Int
abbrev CS:=List (Cp×Int)×List Cp
def b6(k:Key):Cp:= [k.kind,k.oid,k.count,k.call,k.rights]
def cT(c:Cp):Key:=⟨aX c 0 0,aX c 1 0,aX c 2 0,aX c 3 0,aX c 4 0,0⟩
def mn(k:Key):Bool:=decide (2<=k.kind)&&decide (k.kind<=10)
def yT(F:List Cp)(c:Cp):Bool:=decide (c∈F)
def Jc(S:CS)(c:Cp):CS:=(cD (bn S.1 c) (bu S.1 c) (bx S.1 c+1),if cU S.1 c=true then S.2 else bN S.2 c)
def kq(S:CS)(k:Key):CS:=if mn k=true then Jc S (b6 k)else S
def kc(S:CS)(n:Int):Prop:=(S.1.length:Int)<=n/\(S.2.length:Int)<=n/\∀p∈S.1,1<=p.2/\p.2<=n
def p5(L:List Obj)(oid:Int)(w:Bool)(i:Nat):Key:=if w=true then dA (dE L ((cB L oid).slots.at i))else dE L ((cB L oid).slots.at i)
def FC(S:CS)(f:Nat->Key):Nat->CS
 |0=>S
 |n+1=>kq (FC S f n) (f n)
def ft(L:List Obj)(S:CS)(oid:Int)(w:Bool)(g:Int):CS:=FC S (p5 L oid w) g.toNat
def IZ(k:Key):Key:=⟨5,k.oid,k.count,0,0,0⟩
def GM(k:Key):Key:=⟨6,k.oid,k.count,0,0,0⟩
def xz(L:List Obj)(S:CS)(k:Key):CS:=if k.rights=0 then kq (ft L S k.oid (dP k) 16) (IZ k)else ft L S k.oid (dP k) 16
def Er(L:List Obj)(S:CS)(k:Key):CS:=kq (ft L S k.oid false 16) (GM k)
def De(L:List Obj)(S:CS)(k:Key):CS:=if k.kind=2 then xz L S k else if k.kind=5 then Er L S k else S
def C5(F:List Cp)(k:Key):List Cp:=if mn k=true/\yT F (b6 k)=false then F++ [b6 k]else F
def FH(F:List Cp)(f:Nat->Key):Nat->List Cp
 |0=>F
 |n+1=>C5 (FH F f n) (f n)
def uQ(L:List Obj)(F:List Cp)(oid:Int)(w:Bool)(g:Int):List Cp:=FH F (p5 L oid w) g.toNat
def Jn(L:List Obj)(F:List Cp)(k:Key):List Cp:=if k.rights=0 then C5 (uQ L F k.oid (dP k) 16) (IZ k)else uQ L F k.oid (dP k) 16
def JK(L:List Obj)(F:List Cp)(k:Key):List Cp:=C5 (uQ L F k.oid false 16) (GM k)
def Ep(L:List Obj)(F:List Cp)(k:Key):List Cp:=if k.kind=2 then Jn L F k else if k.kind=5 then JK L F k else F
def gI(F:List Cp)(n:Nat):Cp:=aX F n []
def jf(L:List Obj)(oid:Int):Nat->List Cp
 |0=>uQ L [] oid false 16
 |n+1=>if n<(jf L oid n).length then Ep L (jf L oid n) (cT (gI (jf L oid n) n))else jf L oid n
def F4(L:List Obj)(oid:Int):List Cp:=jf L oid 10000
def fG(a b:Int):Int:=if a<b then -1 else if b<a then 1 else 0
def wR(a b:Key):Int:=if fG a.kind b.kind≠0 then fG a.kind b.kind else if fG a.oid b.oid≠0 then fG a.oid b.oid else if fG a.count b.count≠0 then fG a.count b.count else
 if fG a.call b.call≠0 then fG a.call b.call else if fG a.rights b.rights≠0 then fG a.rights b.rights else fG a.value b.value
def fC(a b:Cp):Bool:=decide (wR (cT a) (cT b)<0)
def wz(l:List Cp)(c:Cp):List Cp:=l.takeWhile (fun x=>fC x c)++c::l.dropWhile (fun x=>fC x c)
def kr(l:List Cp):List Cp:=l.foldl wz []
def ka(L:List Obj)(oid:Int):List Cp:=kr (F4 L oid)
theorem sg{D:List (Cp×Int)}{c:Cp}:cU D c=true↔c∈D.map (·.1):=by
 unfold cU;simp[List.any_eq_true]
theorem BO{D:List (Cp×Int)}{c:Cp}:(bn D c).map (·.1)=if cU D c=true then D.map (·.1)else D.map (·.1)++ [c]:=by
 unfold bn;split<;>simp
theorem vr{D:List (Cp×Int)}{j:Nat}{v:Int}:(cD D j v).map (·.1)=D.map (·.1):=by
 unfold cD;rw[List.map_set];simp only;by_cases h:j<D.length
 ·have:(aX D j ([],0)).1=(D.map (·.1))[j]'(by simpa using h):=by simp[aX,aq,h]
  rw[this,List.set_getElem_self]
 ·rw[List.set_eq_of_length_le (by simpa using Nat.le_of_not_lt h)]
theorem vS(S:CS)(c:Cp):(Jc S c).1.map (·.1)=if c∈S.1.map (·.1)then S.1.map (·.1)else S.1.map (·.1)++ [c]:=by
 unfold Jc;simp only[vr,BO,sg]
theorem ng(S:CS)(k:Key):(kq S k).1.map (·.1)=C5 (S.1.map (·.1)) k:=by
 unfold kq C5 yT;by_cases h:mn k=true
 ·simp only[h,if_true,vS,true_and,decide_eq_false_iff_not];by_cases hm:b6 k∈S.1.map (·.1)
  ·simp[hm]
  ·simp[hm]
 ·simp[h]
theorem Cs{D:List (Cp×Int)}{c:Cp}(h:cU D c=true):bu D c<D.length:=by
 unfold bu;rw[List.findIdx_lt_length];unfold cU at h;simpa[List.any_eq_true]using h
theorem rU{D:List (Cp×Int)}{c:Cp}(h:¬cU D c=true):bu D c=D.length:=by
 unfold bu;rw[List.findIdx_eq_length];unfold cU at h;simp only[List.any_eq_true,ai,not_exists,not_and]at h;intro x hx;simpa using h x hx
theorem u4{D:List (Cp×Int)}{c:Cp}(h:¬cU D c=true):bx D c=0:=by
 unfold bx;rw[rU h];simp[aX,aq]
theorem get_mem{D:List (Cp×Int)}{c:Cp}(h:cU D c=true):(aX D (bu D c) ([],0))∈D:=by
 have:=Cs h;simp[aX,aq,this]
theorem vb{D:List (Cp×Int)}{c:Cp}:(bn D c).length=if cU D c=true then D.length else D.length+1:=by
 unfold bn;split<;>simp
theorem CL{D:List (Cp×Int)}{c:Cp}:bu D c<(bn D c).length:=by
 rw[vb];split
 ·exact Cs ‹_›
 ·rw[rU ‹_›];omega
theorem FN{S:CS}{c:Cp}{n:Int}(h:kc S n):kc (Jc S c) (n+1):=by
 obtain⟨h1,h2,h3⟩:=h;refine⟨?_,?_,fun p hp=>?_⟩
 ·show(((cD (bn S.1 c) (bu S.1 c) (bx S.1 c+1)).length:Nat):Int)<=n+1
  unfold cD;rw[List.length_set,vb];split<;>omega
 ·show(((if cU S.1 c=true then S.2 else bN S.2 c).length:Nat):Int)<=n+1
  split
  ·omega
  ·simp[bN];omega
 ·have hn:0<=n:=by omega
  have hg:0<=bx S.1 c/\bx S.1 c<=n:=by
   by_cases hh:cU S.1 c=true
   ·have:=h3 _ (get_mem hh);unfold bx;omega
   ·rw[u4 hh];omega
  have hp:p∈(bn S.1 c).set (bu S.1 c) ((aX (bn S.1 c) (bu S.1 c) ([],0)).1,bx S.1 c+1):=hp;have hp0:=hp;rcases List.mem_or_eq_of_mem_set hp with hp|rfl
  ·unfold bn at hp;split at hp
   ·have:=h3 p hp;omega
   ·rename_i hno;rcases List.mem_append.1 hp with hp|hp
    ·have:=h3 p hp;omega
    ·exfalso
     obtain⟨j,hj,rfl⟩:=List.getElem_of_mem (l:=(bn S.1 c).set (bu S.1 c) ((aX (bn S.1 c) (bu S.1 c) ([],0)).1,bx S.1 c+1)) hp0;simp only[List.mem_singleton]at hp;rw[List.getElem_set]at hp;split at hp
     ·have:=congrArg Prod.snd hp;simp only at this;omega
     ·rename_i hne;rw[rU hno]at hne;have hlen:j<(bn S.1 c).length:=by simpa using hj
      rw[vb,ar hno]at hlen
      have:(bn S.1 c)[j]'(by simpa using hj)=S.1[j]'(by omega):=by
       have e:bn S.1 c=S.1++ [(c,0)]:=by unfold bn;rw[ar hno]
       simp only[e];rw[List.getElem_append_left]
      rw[this]at hp;have:=h3 _ (List.getElem_mem (by omega:j<S.1.length))
      rw[hp]at this;simp only at this;omega
  ·simp only;omega
theorem df{S:CS}{n m:Int}(h:kc S n)(hm:n<=m):kc S m:=⟨by have:=h.1;omega,by have:=h.2.1;omega,fun p hp=>by have:=h.2.2 p hp;omega⟩
theorem uS{S:CS}{k:Key}{n:Int}(h:kc S n):kc (kq S k) (n+1):=by
 unfold kq;split
 ·exact FN h
 ·exact df h (by omega)
theorem jQ{S:CS}{f:Nat->Key}{n:Int}(h:kc S n):∀g:Nat,kc (FC S f g) (n+g)
 |0=>by simpa[FC]using h
 |g+1=>by
  have:=uS (k:=f g) (jQ (f:=f) h g);exact df this (by omega)
theorem zH:kc ([],[]) 0:=⟨by simp,by simp,by simp⟩
end Go.Sx
