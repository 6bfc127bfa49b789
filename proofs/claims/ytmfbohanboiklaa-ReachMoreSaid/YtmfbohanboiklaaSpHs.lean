import Derived.Test.YtmfbohanboiklaaSpHa
set_option linter.unusedSimpArgs false
set_option linter.unusedVariables false
namespace Go.Sx
structure T5 where
 a:Int
 b:Int
 c:Int
 d:Int
 e:Int
 deriving Inhabited
def T5.key (x:T5):Key:=⟨x.a,x.b,x.c,x.d,x.e,0⟩
def T5.cp (x:T5):Cp:= [x.a,x.b,x.c,x.d,x.e]
def fL (l:Cp):T5:=⟨aq l 0 0,aq l 1 0,aq l 2 0,aq l 3 0,aq l 4 0⟩
theorem Aj {l:Cp} (h:l.length=5):(fL l).cp=l:=by
 match l,h with
 | [a,b,c,d,e],_=>rfl
theorem Ih (x:T5):fL x.cp=x:=rfl
theorem Ek {l:Cp} (h:l.length=5):bc (bP l)=l:=by
 match l,h with
 | [a,b,c,d,e],_=>rfl
def kI (x y:T5):Prop:=x.a<y.a\/(x.a=y.a/\(x.b<y.b\/(x.b=y.b/\(x.c<y.c\/(x.c=y.c/\(x.d<y.d\/(x.d=y.d/\x.e<y.e)))))))
theorem KY {a b:Int}:fw a b=0↔a=b:=by
 unfold fw;split
 ·omega
 ·split<;>omega
theorem xD {a b:Int}:fw a b<0↔a<b:=by
 unfold fw;split
 ·omega
 ·split<;>omega
theorem DP (x y:T5):eL x.key y.key<0↔kI x y:=by
 unfold eL T5.key kI;simp only[ne_eq,KY];by_cases h1:x.a=y.a
 ·rw[NW (by simpa using h1)]
  by_cases h2:x.b=y.b
  ·rw[NW (by simpa using h2)]
   by_cases h3:x.c=y.c
   ·rw[NW (by simpa using h3)]
    by_cases h4:x.d=y.d
    ·rw[NW (by simpa using h4)]
     by_cases h5:x.e=y.e
     ·rw[NW (by simpa using h5)]
      have:fw 0 0=0:=rfl;omega
     ·rw[NX h5,xD];omega
    ·rw[NX h4,xD];omega
   ·rw[NX h3,xD];omega
  ·rw[NX h2,xD];omega
 ·rw[NX h1,xD];omega
theorem y9 (x:T5):¬kI x x:=by unfold kI;omega
theorem oT {x y z:T5} (h:kI x y) (k:kI y z):kI x z:=by unfold kI at *;omega
theorem oC {x y:T5} (h:¬kI x y) (k:¬kI y x):x=y:=by
 have:x.a=y.a/\x.b=y.b/\x.c=y.c/\x.d=y.d/\x.e=y.e:=by unfold kI at *;omega
 cases x;cases y;simp_all
theorem nS {x y:Cp}:eP x y=true↔kI (fL x) (fL y):=by
 unfold eP;rw[NQ];exact DP (fL x) (fL y)
theorem yF {x y:Cp} (hx:x.length=5) (hy:y.length=5) (h:eP x y=false) (k:eP y x=false):x=y:=by
 have h:¬eP x y=true:=by simp[h]
 have k:¬eP y x=true:=by simp[k]
 rw[nS]at h k;have:=congrArg T5.cp (oC h k);rwa [Aj hx,Aj hy]at this
theorem td {x y z:Cp} (h:eP x y=true) (k:eP y z=true):eP x z=true:=by
 rw[nS]at *;exact oT h k
theorem EA (x:Cp):eP x x=false:=by
 have:¬eP x x=true:=by rw[nS];exact y9 _
 simpa using this
def pc (l:List Cp):Prop:=l.Pairwise fun x y=>eP x y=true
theorem Cq (l:List Cp) (c:Cp):(rH l c).Perm (c::l):=by
 unfold rH;refine List.perm_middle.trans ?_;rw[List.takeWhile_append_dropWhile]
theorem DL {l:List Cp} {c:Cp} (hl:pc l) (h5:∀x∈l,x.length=5) (hc:c.length=5) (hn:c∉l):pc (rH l c):=by
 unfold rH;have htd:=List.takeWhile_append_dropWhile (p:=fun x=>eP x c) (l:=l)
 have hpw:(l.takeWhile (fun x=>eP x c)++l.dropWhile (fun x=>eP x c)).Pairwise fun x y=>eP x y=true:=by rw[htd];exact hl
 obtain⟨p1,p2,p3⟩:=List.pairwise_append.1 hpw
 have ht:∀x∈l.takeWhile (fun x=>eP x c),eP x c=true:=fun x hx=>by
  have:=List.all_takeWhile (p:=fun x=>eP x c) (l:=l)
  exact List.all_eq_true.1 this x hx
 have hd:∀y∈l.dropWhile (fun x=>eP x c),eP c y=true:=by
  cases hdw:l.dropWhile (fun x=>eP x c)with
  |nil=>simp
  |cons z r=>
   have hz0:eP z c=false:=by
    have:=List.head_dropWhile_not (fun x=>eP x c) (l:=l) (by rw[hdw];simp)
    simpa[hdw]using this
   have hzl:z∈l:=by rw[<-htd,hdw];simp
   have hz:eP c z=true:=by
    refine Decidable.byContradiction fun hcz=>?_
    have:=yF (h5 z hzl) hc hz0 (by simpa using hcz)
    exact hn (this▸hzl)
   intro y hy;rcases List.mem_cons.1 hy with rfl|hy
   ·exact hz
   ·rw[hdw]at p2;exact td hz ((List.pairwise_cons.1 p2).1 y hy)
 unfold pc;rw[List.pairwise_append];refine⟨p1,List.pairwise_cons.2 ⟨hd,p2⟩,fun x hx y hy=>?_⟩
 rcases List.mem_cons.1 hy with rfl|hy
 ·exact ht x hx
 ·exact p3 x hx y hy
theorem D7:∀(l acc:List Cp),pc acc->(∀x∈acc,x.length=5)->(∀x∈l,x.length=5)->l.Nodup->(∀x∈l,x∉acc)->pc (l.foldl rH acc)/\(l.foldl rH acc).Perm (l++acc)
 | [],acc,h1,_,_,_,_=>⟨h1,List.Perm.refl _⟩
 |c::l,acc,h1,h2,h3,h4,h5=>by
  have hc:=h3 c (by simp)
  have hn:=h5 c (by simp)
  rw[List.nodup_cons]at h4;have hp:=Cq acc c
  obtain⟨g1,g2⟩:=D7 l (rH acc c) (DL h1 h2 hc hn) (fun x hx=>by
    rcases List.mem_cons.1 (hp.mem_iff.1 hx)with rfl|hx
    ·exact hc
    ·exact h2 x hx) (fun x hx=>h3 x (by simp[hx])) h4.2 (fun x hx hx'=>by
    rcases List.mem_cons.1 (hp.mem_iff.1 hx')with rfl|hx'
    ·exact h4.1 hx
    ·exact h5 x (by simp[hx]) hx')
  exact⟨g1,g2.trans ((hp.append_left l).trans (List.perm_middle))⟩
theorem eF {l:List Cp} (h5:∀x∈l,x.length=5) (hn:l.Nodup):pc (gJ l)/\(gJ l).Perm l:=by
 obtain⟨h1,h2⟩:=D7 l [] List.Pairwise.nil (by simp) h5 hn (by simp)
 rw[List.append_nil]at h2;exact⟨h1,h2⟩
theorem FB {l m:List Cp} (hl:pc l) (hm:pc m) (h:l.Perm m):l=m:=
 List.Perm.eq_of_pairwise (le:=fun x y=>eP x y=true) (fun a b _ _ h1 h2=>by have:=td h1 h2;rw[EA]at this;simp at this) hl hm h
theorem Cb {l m:List Cp} (h5:∀x∈l,x.length=5) (hn:l.Nodup) (h:l.Perm m):gJ l=gJ m:=by
 obtain⟨a1,a2⟩:=eF h5 hn;obtain⟨b1,b2⟩:=eF (fun x hx=>h5 x (h.mem_iff.2 hx)) (h.nodup_iff.1 hn)
 exact FB a1 b1 (a2.trans (h.trans b2.symm))
theorem Fs {l:List Cp} (h5:∀x∈l,x.length=5) (hn:l.Nodup) {x:Cp}:x∈gJ l↔x∈l:=(eF h5 hn).2.mem_iff
theorem Bv {l:List Cp} (h5:∀x∈l,x.length=5) (hn:l.Nodup) (le:T5->T5->Bool) (hle:∀x y,le x y=true↔ ¬kI y x):((l.map fL).mergeSort le).map T5.cp=gJ l:=by
 have hp:(((l.map fL).mergeSort le).map T5.cp).Perm l:=by
  refine((List.mergeSort_perm _ _).map _).trans ?_;rw[List.map_map]
  have:l.map (T5.cp∘fL)=l:=by
   conv=>rhs;rw[<-List.map_id l]
   exact List.map_congr_left fun x hx=>Aj (h5 x hx)
  rw[this]
 have hpw:=List.pairwise_mergeSort (le:=le) (fun a b c h1 h2=>by
   rw[hle]at *;intro hca;rcases Classical.em (kI a b)with h|h
   ·exact h2 (oT hca h)
   ·have:=oC h h1;subst this;exact h2 hca) (fun a b=>by
   rcases Classical.em (kI b a)with h|h
   ·have:le b a=true:=(hle _ _).2 fun h'=>y9 _ (oT h h')
    simp[this]
   ·have:le a b=true:=(hle _ _).2 h;simp[this]) (l.map fL)
 obtain⟨a1,a2⟩:=eF h5 hn;have hnd:(((l.map fL).mergeSort le).map T5.cp).Nodup:=hp.nodup_iff.2 hn;refine FB ?_ a1 (hp.trans a2.symm);unfold pc;rw[List.pairwise_map];have hnd':((l.map fL).mergeSort le).Pairwise (· ≠ ·):=(List.pairwise_map.1 hnd).imp fun h e=>h (congrArg _ e)
 refine(hpw.and hnd').imp fun{x y} ⟨h,hne⟩=>?_
 rw[nS,Ih,Ih];rw[hle]at h;exact Classical.byContradiction fun hh=>hne (oC hh h)
def J2 (v:V):Option Nat:=
 match v with
 | .fn g caps=>match caps with
   | []=>some g
   |_::_=>none
 |_=>none
theorem BE {v:V} {g:Nat} (h:J2 v=some g):v= .fn g []:=by
 unfold J2 at h;split at h
 ·split at h
  ·simp only[NN]at h;subst h;rfl
  ·simp at h
 ·simp at h
def vB (q:List Cp):Prop:=q.Nodup/\(∀x∈q,x.length=5)/\q.length<=1000000
def Fe:qp:=fun args res K=>
 match args with
 | [a,f]=>match a with
   | .sa k=>match J2 f with
     |some g=>match ae res k with
      | .arr own esz t=>match own with
        |some e=>match t with
         | .qs n q=>if g==53&&esz==5&&n==5 then vB q/\K (.tp []) (aL res k (.arr (some e) 5 (.qs 5 (gJ q))))else False
         |_=>False
        |none=>False
      |_=>False
     |none=>False
   |_=>False
 |_=>False
end Go.Sx
