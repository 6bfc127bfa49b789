import Derived.Test.YtmfbohanboiklaaSpHa
set_option linter.unusedSimpArgs false
set_option linter.unusedVariables false
namespace Go.Sx
structure T5 where
 a:Int
 b:Int
 c:Int
 d:Int
 e:Int
 deriving Inhabited
def T5.key (x:T5):Key:=⟨x.a,x.b,x.c,x.d,x.e,0⟩
def T5.cp (x:T5):Cp:= [x.a,x.b,x.c,x.d,x.e]
def fV (l:Cp):T5:=⟨ay l 0 0,ay l 1 0,ay l 2 0,ay l 3 0,ay l 4 0⟩
theorem Aq {l:Cp} (h:l.length=5):(fV l).cp=l:=by
 match l,h with
 | [a,b,c,d,e],_=>rfl
theorem II (x:T5):fV x.cp=x:=rfl
theorem DB {l:Cp} (h:l.length=5):bd (bc l)=l:=by
 match l,h with
 | [a,b,c,d,e],_=>rfl
def kT (x y:T5):Prop:=x.a<y.a\/(x.a=y.a/\(x.b<y.b\/(x.b=y.b/\(x.c<y.c\/(x.c=y.c/\(x.d<y.d\/(x.d=y.d/\x.e<y.e)))))))
theorem L6 {a b:Int}:fF a b=0↔a=b:=by
 unfold fF;split
 ·omega
 ·split<;>omega
theorem yf {a b:Int}:fF a b<0↔a<b:=by
 unfold fF;split
 ·omega
 ·split<;>omega
theorem Ew (x y:T5):eQ x.key y.key<0↔kT x y:=by
 unfold eQ T5.key kT;simp only[ne_eq,L6];by_cases h1:x.a=y.a
 ·rw[N9 (by simpa using h1)]
  by_cases h2:x.b=y.b
  ·rw[N9 (by simpa using h2)]
   by_cases h3:x.c=y.c
   ·rw[N9 (by simpa using h3)]
    by_cases h4:x.d=y.d
    ·rw[N9 (by simpa using h4)]
     by_cases h5:x.e=y.e
     ·rw[N9 (by simpa using h5)]
      have:fF 0 0=0:=rfl;omega
     ·rw[Oa h5,yf];omega
    ·rw[Oa h4,yf];omega
   ·rw[Oa h3,yf];omega
  ·rw[Oa h2,yf];omega
 ·rw[Oa h1,yf];omega
theorem zE (x:T5):¬kT x x:=by unfold kT;omega
theorem oa {x y z:T5} (h:kT x y) (k:kT y z):kT x z:=by unfold kT at *;omega
theorem oA {x y:T5} (h:¬kT x y) (k:¬kT y x):x=y:=by
 have:x.a=y.a/\x.b=y.b/\x.c=y.c/\x.d=y.d/\x.e=y.e:=by unfold kT at *;omega
 cases x;cases y;simp_all
theorem nT {x y:Cp}:eU x y=true↔kT (fV x) (fV y):=by
 unfold eU;rw[N4];exact Ew (fV x) (fV y)
theorem za {x y:Cp} (hx:x.length=5) (hy:y.length=5) (h:eU x y=false) (k:eU y x=false):x=y:=by
 have h:¬eU x y=true:=by simp[h]
 have k:¬eU y x=true:=by simp[k]
 rw[nT]at h k;have:=congrArg T5.cp (oA h k);rwa [Aq hx,Aq hy]at this
theorem sJ {x y z:Cp} (h:eU x y=true) (k:eU y z=true):eU x z=true:=by
 rw[nT]at *;exact oa h k
theorem Du (x:Cp):eU x x=false:=by
 have:¬eU x x=true:=by rw[nT];exact zE _
 simpa using this
def oE (l:List Cp):Prop:=l.Pairwise fun x y=>eU x y=true
theorem Cn (l:List Cp) (c:Cp):(rz l c).Perm (c::l):=by
 unfold rz;refine List.perm_middle.trans ?_;rw[List.takeWhile_append_dropWhile]
theorem Ee {l:List Cp} {c:Cp} (hl:oE l) (h5:∀x∈l,x.length=5) (hc:c.length=5) (hn:c∉l):oE (rz l c):=by
 unfold rz;have htd:=List.takeWhile_append_dropWhile (p:=fun x=>eU x c) (l:=l)
 have hpw:(l.takeWhile (fun x=>eU x c)++l.dropWhile (fun x=>eU x c)).Pairwise fun x y=>eU x y=true:=by rw[htd];exact hl
 obtain⟨p1,p2,p3⟩:=List.pairwise_append.1 hpw
 have ht:∀x∈l.takeWhile (fun x=>eU x c),eU x c=true:=fun x hx=>by
  have:=List.all_takeWhile (p:=fun x=>eU x c) (l:=l)
  exact List.all_eq_true.1 this x hx
 have hd:∀y∈l.dropWhile (fun x=>eU x c),eU c y=true:=by
  cases hdw:l.dropWhile (fun x=>eU x c)with
  |nil=>simp
  |cons z r=>
   have hz0:eU z c=false:=by
    have:=List.head_dropWhile_not (fun x=>eU x c) (l:=l) (by rw[hdw];simp)
    simpa[hdw]using this
   have hzl:z∈l:=by rw[<-htd,hdw];simp
   have hz:eU c z=true:=by
    refine Decidable.byContradiction fun hcz=>?_
    have:=za (h5 z hzl) hc hz0 (by simpa using hcz)
    exact hn (this▸hzl)
   intro y hy;rcases List.mem_cons.1 hy with rfl|hy
   ·exact hz
   ·rw[hdw]at p2;exact sJ hz ((List.pairwise_cons.1 p2).1 y hy)
 unfold oE;rw[List.pairwise_append];refine⟨p1,List.pairwise_cons.2 ⟨hd,p2⟩,fun x hx y hy=>?_⟩
 rcases List.mem_cons.1 hy with rfl|hy
 ·exact ht x hx
 ·exact p3 x hx y hy
theorem Eu:∀(l acc:List Cp),oE acc->(∀x∈acc,x.length=5)->(∀x∈l,x.length=5)->l.Nodup->(∀x∈l,x∉acc)->oE (l.foldl rz acc)/\(l.foldl rz acc).Perm (l++acc)
 | [],acc,h1,_,_,_,_=>⟨h1,List.Perm.refl _⟩
 |c::l,acc,h1,h2,h3,h4,h5=>by
  have hc:=h3 c (by simp)
  have hn:=h5 c (by simp)
  rw[List.nodup_cons]at h4;have hp:=Cn acc c
  obtain⟨g1,g2⟩:=Eu l (rz acc c) (Ee h1 h2 hc hn) (fun x hx=>by
    rcases List.mem_cons.1 (hp.mem_iff.1 hx)with rfl|hx
    ·exact hc
    ·exact h2 x hx) (fun x hx=>h3 x (by simp[hx])) h4.2 (fun x hx hx'=>by
    rcases List.mem_cons.1 (hp.mem_iff.1 hx')with rfl|hx'
    ·exact h4.1 hx
    ·exact h5 x (by simp[hx]) hx')
  exact⟨g1,g2.trans ((hp.append_left l).trans (List.perm_middle))⟩
theorem fx {l:List Cp} (h5:∀x∈l,x.length=5) (hn:l.Nodup):oE (ia l)/\(ia l).Perm l:=by
 obtain⟨h1,h2⟩:=Eu l [] List.Pairwise.nil (by simp) h5 hn (by simp)
 rw[List.append_nil]at h2;exact⟨h1,h2⟩
theorem Fp {l m:List Cp} (hl:oE l) (hm:oE m) (h:l.Perm m):l=m:=
 List.Perm.eq_of_pairwise (le:=fun x y=>eU x y=true) (fun a b _ _ h1 h2=>by have:=sJ h1 h2;rw[Du]at this;simp at this) hl hm h
theorem A4 {l m:List Cp} (h5:∀x∈l,x.length=5) (hn:l.Nodup) (h:l.Perm m):ia l=ia m:=by
 obtain⟨a1,a2⟩:=fx h5 hn;obtain⟨b1,b2⟩:=fx (fun x hx=>h5 x (h.mem_iff.2 hx)) (h.nodup_iff.1 hn)
 exact Fp a1 b1 (a2.trans (h.trans b2.symm))
theorem DH {l:List Cp} (h5:∀x∈l,x.length=5) (hn:l.Nodup) {x:Cp}:x∈ia l↔x∈l:=(fx h5 hn).2.mem_iff
theorem BC {l:List Cp} (h5:∀x∈l,x.length=5) (hn:l.Nodup) (le:T5->T5->Bool) (hle:∀x y,le x y=true↔ ¬kT y x):((l.map fV).mergeSort le).map T5.cp=ia l:=by
 have hp:(((l.map fV).mergeSort le).map T5.cp).Perm l:=by
  refine((List.mergeSort_perm _ _).map _).trans ?_;rw[List.map_map]
  have:l.map (T5.cp∘fV)=l:=by
   conv=>rhs;rw[<-List.map_id l]
   exact List.map_congr_left fun x hx=>Aq (h5 x hx)
  rw[this]
 have hpw:=List.pairwise_mergeSort (le:=le) (fun a b c h1 h2=>by
   rw[hle]at *;intro hca;rcases Classical.em (kT a b)with h|h
   ·exact h2 (oa hca h)
   ·have:=oA h h1;subst this;exact h2 hca) (fun a b=>by
   rcases Classical.em (kT b a)with h|h
   ·have:le b a=true:=(hle _ _).2 fun h'=>zE _ (oa h h')
    simp[this]
   ·have:le a b=true:=(hle _ _).2 h;simp[this]) (l.map fV)
 obtain⟨a1,a2⟩:=fx h5 hn;have hnd:(((l.map fV).mergeSort le).map T5.cp).Nodup:=hp.nodup_iff.2 hn;refine Fp ?_ a1 (hp.trans a2.symm);unfold oE;rw[List.pairwise_map];have hnd':((l.map fV).mergeSort le).Pairwise (· ≠ ·):=(List.pairwise_map.1 hnd).imp fun h e=>h (congrArg _ e)
 refine(hpw.and hnd').imp fun{x y} ⟨h,hne⟩=>?_
 rw[nT,II,II];rw[hle]at h;exact Classical.byContradiction fun hh=>hne (oA hh h)
def I8 (v:V):Option Nat:=
 match v with
 | .fn g caps=>match caps with
   | []=>some g
   |_::_=>none
 |_=>none
theorem Bl {v:V} {g:Nat} (h:I8 v=some g):v= .fn g []:=by
 unfold I8 at h;split at h
 ·split at h
  ·simp only[N1]at h;subst h;rfl
  ·simp at h
 ·simp at h
def vP (q:List Cp):Prop:=q.Nodup/\(∀x∈q,x.length=5)/\q.length<=1000000
def Fu:pd:=fun args res K=>
 match args with
 | [a,f]=>match a with
   | .sa k=>match I8 f with
     |some g=>match ae res k with
      | .arr own esz t=>match own with
        |some e=>match t with
         | .qs n q=>if g==53&&esz==5&&n==5 then vP q/\K (.tp []) (aM res k (.arr (some e) 5 (.qs 5 (ia q))))else False
         |_=>False
        |none=>False
      |_=>False
     |none=>False
   |_=>False
 |_=>False
end Go.Sx
