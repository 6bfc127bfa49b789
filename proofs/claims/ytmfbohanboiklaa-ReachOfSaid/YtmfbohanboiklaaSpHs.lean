import Derived.Test.YtmfbohanboiklaaSpHa
set_option linter.unusedSimpArgs false
set_option linter.unusedVariables false
namespace Go.Sx
structure T5 where
 a:Int
 b:Int
 c:Int
 d:Int
 e:Int
 deriving Inhabited
def T5.key (x:T5):Key:=⟨x.a,x.b,x.c,x.d,x.e,0⟩
def T5.cp (x:T5):Cp:= [x.a,x.b,x.c,x.d,x.e]
def fJ (l:Cp):T5:=⟨ay l 0 0,ay l 1 0,ay l 2 0,ay l 3 0,ay l 4 0⟩
theorem zI {l:Cp} (h:l.length=5):(fJ l).cp=l:=by
 match l,h with
 | [a,b,c,d,e],_=>rfl
theorem G2 (x:T5):fJ x.cp=x:=rfl
theorem CR {l:Cp} (h:l.length=5):a8 (cq l)=l:=by
 match l,h with
 | [a,b,c,d,e],_=>rfl
def kf (x y:T5):Prop:=x.a<y.a\/(x.a=y.a/\(x.b<y.b\/(x.b=y.b/\(x.c<y.c\/(x.c=y.c/\(x.d<y.d\/(x.d=y.d/\x.e<y.e)))))))
theorem KF {a b:Int}:fi a b=0↔a=b:=by
 unfold fi;split
 ·omega
 ·split<;>omega
theorem wY {a b:Int}:fi a b<0↔a<b:=by
 unfold fi;split
 ·omega
 ·split<;>omega
theorem Dq (x y:T5):eD x.key y.key<0↔kf x y:=by
 unfold eD T5.key kf;simp only[ne_eq,KF];by_cases h1:x.a=y.a
 ·rw[MA (by simpa using h1)]
  by_cases h2:x.b=y.b
  ·rw[MA (by simpa using h2)]
   by_cases h3:x.c=y.c
   ·rw[MA (by simpa using h3)]
    by_cases h4:x.d=y.d
    ·rw[MA (by simpa using h4)]
     by_cases h5:x.e=y.e
     ·rw[MA (by simpa using h5)]
      have:fi 0 0=0:=rfl;omega
     ·rw[MB h5,wY];omega
    ·rw[MB h4,wY];omega
   ·rw[MB h3,wY];omega
  ·rw[MB h2,wY];omega
 ·rw[MB h1,wY];omega
theorem yA (x:T5):¬kf x x:=by unfold kf;omega
theorem og {x y z:T5} (h:kf x y) (k:kf y z):kf x z:=by unfold kf at *;omega
theorem oh {x y:T5} (h:¬kf x y) (k:¬kf y x):x=y:=by
 have:x.a=y.a/\x.b=y.b/\x.c=y.c/\x.d=y.d/\x.e=y.e:=by unfold kf at *;omega
 cases x;cases y;simp_all
theorem na {x y:Cp}:eE x y=true↔kf (fJ x) (fJ y):=by
 unfold eE;rw[Mv];exact Dq (fJ x) (fJ y)
theorem yf {x y:Cp} (hx:x.length=5) (hy:y.length=5) (h:eE x y=false) (k:eE y x=false):x=y:=by
 have h:¬eE x y=true:=by simp[h]
 have k:¬eE y x=true:=by simp[k]
 rw[na]at h k;have:=congrArg T5.cp (oh h k);rwa [zI hx,zI hy]at this
theorem rW {x y z:Cp} (h:eE x y=true) (k:eE y z=true):eE x z=true:=by
 rw[na]at *;exact og h k
theorem Ef (x:Cp):eE x x=false:=by
 have:¬eE x x=true:=by rw[na];exact yA _
 simpa using this
def nc (l:List Cp):Prop:=l.Pairwise fun x y=>eE x y=true
theorem Bh (l:List Cp) (c:Cp):(qM l c).Perm (c::l):=by
 unfold qM;refine List.perm_middle.trans ?_;rw[List.takeWhile_append_dropWhile]
theorem CJ {l:List Cp} {c:Cp} (hl:nc l) (h5:∀x∈l,x.length=5) (hc:c.length=5) (hn:c∉l):nc (qM l c):=by
 unfold qM;have htd:=List.takeWhile_append_dropWhile (p:=fun x=>eE x c) (l:=l)
 have hpw:(l.takeWhile (fun x=>eE x c)++l.dropWhile (fun x=>eE x c)).Pairwise fun x y=>eE x y=true:=by rw[htd];exact hl
 obtain⟨p1,p2,p3⟩:=List.pairwise_append.1 hpw
 have ht:∀x∈l.takeWhile (fun x=>eE x c),eE x c=true:=fun x hx=>by
  have:=List.all_takeWhile (p:=fun x=>eE x c) (l:=l)
  exact List.all_eq_true.1 this x hx
 have hd:∀y∈l.dropWhile (fun x=>eE x c),eE c y=true:=by
  cases hdw:l.dropWhile (fun x=>eE x c)with
  |nil=>simp
  |cons z r=>
   have hz0:eE z c=false:=by
    have:=List.head_dropWhile_not (fun x=>eE x c) (l:=l) (by rw[hdw];simp)
    simpa[hdw]using this
   have hzl:z∈l:=by rw[<-htd,hdw];simp
   have hz:eE c z=true:=by
    refine Decidable.byContradiction fun hcz=>?_
    have:=yf (h5 z hzl) hc hz0 (by simpa using hcz)
    exact hn (this▸hzl)
   intro y hy;rcases List.mem_cons.1 hy with rfl|hy
   ·exact hz
   ·rw[hdw]at p2;exact rW hz ((List.pairwise_cons.1 p2).1 y hy)
 unfold nc;rw[List.pairwise_append];refine⟨p1,List.pairwise_cons.2 ⟨hd,p2⟩,fun x hx y hy=>?_⟩
 rcases List.mem_cons.1 hy with rfl|hy
 ·exact ht x hx
 ·exact p3 x hx y hy
theorem DU:∀(l acc:List Cp),nc acc->(∀x∈acc,x.length=5)->(∀x∈l,x.length=5)->l.Nodup->(∀x∈l,x∉acc)->nc (l.foldl qM acc)/\(l.foldl qM acc).Perm (l++acc)
 | [],acc,h1,_,_,_,_=>⟨h1,List.Perm.refl _⟩
 |c::l,acc,h1,h2,h3,h4,h5=>by
  have hc:=h3 c (by simp)
  have hn:=h5 c (by simp)
  rw[List.nodup_cons]at h4;have hp:=Bh acc c
  obtain⟨g1,g2⟩:=DU l (qM acc c) (CJ h1 h2 hc hn) (fun x hx=>by
    rcases List.mem_cons.1 (hp.mem_iff.1 hx)with rfl|hx
    ·exact hc
    ·exact h2 x hx) (fun x hx=>h3 x (by simp[hx])) h4.2 (fun x hx hx'=>by
    rcases List.mem_cons.1 (hp.mem_iff.1 hx')with rfl|hx'
    ·exact h4.1 hx
    ·exact h5 x (by simp[hx]) hx')
  exact⟨g1,g2.trans ((hp.append_left l).trans (List.perm_middle))⟩
theorem gE {l:List Cp} (h5:∀x∈l,x.length=5) (hn:l.Nodup):nc (ib l)/\(ib l).Perm l:=by
 obtain⟨h1,h2⟩:=DU l [] List.Pairwise.nil (by simp) h5 hn (by simp)
 rw[List.append_nil]at h2;exact⟨h1,h2⟩
theorem DC {l m:List Cp} (hl:nc l) (hm:nc m) (h:l.Perm m):l=m:=
 List.Perm.eq_of_pairwise (le:=fun x y=>eE x y=true) (fun a b _ _ h1 h2=>by have:=rW h1 h2;rw[Ef]at this;simp at this) hl hm h
theorem Bn {l m:List Cp} (h5:∀x∈l,x.length=5) (hn:l.Nodup) (h:l.Perm m):ib l=ib m:=by
 obtain⟨a1,a2⟩:=gE h5 hn;obtain⟨b1,b2⟩:=gE (fun x hx=>h5 x (h.mem_iff.2 hx)) (h.nodup_iff.1 hn)
 exact DC a1 b1 (a2.trans (h.trans b2.symm))
theorem Bf {l:List Cp} (h5:∀x∈l,x.length=5) (hn:l.Nodup) (le:T5->T5->Bool) (hle:∀x y,le x y=true↔ ¬kf y x):((l.map fJ).mergeSort le).map T5.cp=ib l:=by
 have hp:(((l.map fJ).mergeSort le).map T5.cp).Perm l:=by
  refine((List.mergeSort_perm _ _).map _).trans ?_;rw[List.map_map]
  have:l.map (T5.cp∘fJ)=l:=by
   conv=>rhs;rw[<-List.map_id l]
   exact List.map_congr_left fun x hx=>zI (h5 x hx)
  rw[this]
 have hpw:=List.pairwise_mergeSort (le:=le) (fun a b c h1 h2=>by
   rw[hle]at *;intro hca;rcases Classical.em (kf a b)with h|h
   ·exact h2 (og hca h)
   ·have:=oh h h1;subst this;exact h2 hca) (fun a b=>by
   rcases Classical.em (kf b a)with h|h
   ·have:le b a=true:=(hle _ _).2 fun h'=>yA _ (og h h')
    simp[this]
   ·have:le a b=true:=(hle _ _).2 h;simp[this]) (l.map fJ)
 obtain⟨a1,a2⟩:=gE h5 hn;have hnd:(((l.map fJ).mergeSort le).map T5.cp).Nodup:=hp.nodup_iff.2 hn;refine DC ?_ a1 (hp.trans a2.symm);unfold nc;rw[List.pairwise_map];have hnd':((l.map fJ).mergeSort le).Pairwise (· ≠ ·):=(List.pairwise_map.1 hnd).imp fun h e=>h (congrArg _ e)
 refine(hpw.and hnd').imp fun{x y} ⟨h,hne⟩=>?_
 rw[na,G2,G2];rw[hle]at h;exact Classical.byContradiction fun hh=>hne (oh hh h)
def Ij (v:V):Option Nat:=
 match v with
 | .fn g caps=>match caps with
   | []=>some g
   |_::_=>none
 |_=>none
theorem Bl {v:V} {g:Nat} (h:Ij v=some g):v= .fn g []:=by
 unfold Ij at h;split at h
 ·split at h
  ·simp only[Ms]at h;subst h;rfl
  ·simp at h
 ·simp at h
def uA (q:List Cp):Prop:=q.Nodup/\(∀x∈q,x.length=5)/\q.length<=1000000
def DR:pn:=fun args res K=>
 match args with
 | [a,f]=>match a with
   | .sa k=>match Ij f with
     |some g=>match aa res k with
      | .arr own esz t=>match own with
        |some e=>match t with
         | .qs n q=>if g==53&&esz==5&&n==5 then uA q/\K (.tp []) (aI res k (.arr (some e) 5 (.qs 5 (ib q))))else False
         |_=>False
        |none=>False
      |_=>False
     |none=>False
   |_=>False
 |_=>False
end Go.Sx
