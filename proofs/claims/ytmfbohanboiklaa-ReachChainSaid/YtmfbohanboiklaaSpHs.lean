import Derived.Test.YtmfbohanboiklaaSpHa
set_option linter.unusedSimpArgs false
set_option linter.unusedVariables false
namespace Go.Sx
structure T5 where
 a:Int
 b:Int
 c:Int
 d:Int
 e:Int
 deriving Inhabited
def T5.key (x:T5):Key:=⟨x.a,x.b,x.c,x.d,x.e,0⟩
def T5.cp (x:T5):Cp:= [x.a,x.b,x.c,x.d,x.e]
def fH (l:Cp):T5:=⟨au l 0 0,au l 1 0,au l 2 0,au l 3 0,au l 4 0⟩
theorem Aq {l:Cp} (h:l.length=5):(fH l).cp=l:=by
 match l,h with
 | [a,b,c,d,e],_=>rfl
theorem HL (x:T5):fH x.cp=x:=rfl
theorem DY {l:Cp} (h:l.length=5):bd (bX l)=l:=by
 match l,h with
 | [a,b,c,d,e],_=>rfl
def kx (x y:T5):Prop:=x.a<y.a\/(x.a=y.a/\(x.b<y.b\/(x.b=y.b/\(x.c<y.c\/(x.c=y.c/\(x.d<y.d\/(x.d=y.d/\x.e<y.e)))))))
theorem Kl {a b:Int}:ft a b=0↔a=b:=by
 unfold ft;split
 ·omega
 ·split<;>omega
theorem wL {a b:Int}:ft a b<0↔a<b:=by
 unfold ft;split
 ·omega
 ·split<;>omega
theorem EH (x y:T5):eH x.key y.key<0↔kx x y:=by
 unfold eH T5.key kx;simp only[ne_eq,Kl];by_cases h1:x.a=y.a
 ·rw[Nf (by simpa using h1)]
  by_cases h2:x.b=y.b
  ·rw[Nf (by simpa using h2)]
   by_cases h3:x.c=y.c
   ·rw[Nf (by simpa using h3)]
    by_cases h4:x.d=y.d
    ·rw[Nf (by simpa using h4)]
     by_cases h5:x.e=y.e
     ·rw[Nf (by simpa using h5)]
      have:ft 0 0=0:=rfl;omega
     ·rw[Ng h5,wL];omega
    ·rw[Ng h4,wL];omega
   ·rw[Ng h3,wL];omega
  ·rw[Ng h2,wL];omega
 ·rw[Ng h1,wL];omega
theorem yQ (x:T5):¬kx x x:=by unfold kx;omega
theorem oc {x y z:T5} (h:kx x y) (k:kx y z):kx x z:=by unfold kx at *;omega
theorem nT {x y:T5} (h:¬kx x y) (k:¬kx y x):x=y:=by
 have:x.a=y.a/\x.b=y.b/\x.c=y.c/\x.d=y.d/\x.e=y.e:=by unfold kx at *;omega
 cases x;cases y;simp_all
theorem oC {x y:Cp}:eK x y=true↔kx (fH x) (fH y):=by
 unfold eK;rw[M9];exact EH (fH x) (fH y)
theorem yp {x y:Cp} (hx:x.length=5) (hy:y.length=5) (h:eK x y=false) (k:eK y x=false):x=y:=by
 have h:¬eK x y=true:=by simp[h]
 have k:¬eK y x=true:=by simp[k]
 rw[oC]at h k;have:=congrArg T5.cp (nT h k);rwa [Aq hx,Aq hy]at this
theorem rD {x y z:Cp} (h:eK x y=true) (k:eK y z=true):eK x z=true:=by
 rw[oC]at *;exact oc h k
theorem CX (x:Cp):eK x x=false:=by
 have:¬eK x x=true:=by rw[oC];exact yQ _
 simpa using this
def nV (l:List Cp):Prop:=l.Pairwise fun x y=>eK x y=true
theorem A4 (l:List Cp) (c:Cp):(rF l c).Perm (c::l):=by
 unfold rF;refine List.perm_middle.trans ?_;rw[List.takeWhile_append_dropWhile]
theorem ES {l:List Cp} {c:Cp} (hl:nV l) (h5:∀x∈l,x.length=5) (hc:c.length=5) (hn:c∉l):nV (rF l c):=by
 unfold rF;have htd:=List.takeWhile_append_dropWhile (p:=fun x=>eK x c) (l:=l)
 have hpw:(l.takeWhile (fun x=>eK x c)++l.dropWhile (fun x=>eK x c)).Pairwise fun x y=>eK x y=true:=by rw[htd];exact hl
 obtain⟨p1,p2,p3⟩:=List.pairwise_append.1 hpw
 have ht:∀x∈l.takeWhile (fun x=>eK x c),eK x c=true:=fun x hx=>by
  have:=List.all_takeWhile (p:=fun x=>eK x c) (l:=l)
  exact List.all_eq_true.1 this x hx
 have hd:∀y∈l.dropWhile (fun x=>eK x c),eK c y=true:=by
  cases hdw:l.dropWhile (fun x=>eK x c)with
  |nil=>simp
  |cons z r=>
   have hz0:eK z c=false:=by
    have:=List.head_dropWhile_not (fun x=>eK x c) (l:=l) (by rw[hdw];simp)
    simpa[hdw]using this
   have hzl:z∈l:=by rw[<-htd,hdw];simp
   have hz:eK c z=true:=by
    refine Decidable.byContradiction fun hcz=>?_
    have:=yp (h5 z hzl) hc hz0 (by simpa using hcz)
    exact hn (this▸hzl)
   intro y hy;rcases List.mem_cons.1 hy with rfl|hy
   ·exact hz
   ·rw[hdw]at p2;exact rD hz ((List.pairwise_cons.1 p2).1 y hy)
 unfold nV;rw[List.pairwise_append];refine⟨p1,List.pairwise_cons.2 ⟨hd,p2⟩,fun x hx y hy=>?_⟩
 rcases List.mem_cons.1 hy with rfl|hy
 ·exact ht x hx
 ·exact p3 x hx y hy
theorem CI:∀(l acc:List Cp),nV acc->(∀x∈acc,x.length=5)->(∀x∈l,x.length=5)->l.Nodup->(∀x∈l,x∉acc)->nV (l.foldl rF acc)/\(l.foldl rF acc).Perm (l++acc)
 | [],acc,h1,_,_,_,_=>⟨h1,List.Perm.refl _⟩
 |c::l,acc,h1,h2,h3,h4,h5=>by
  have hc:=h3 c (by simp)
  have hn:=h5 c (by simp)
  rw[List.nodup_cons]at h4;have hp:=A4 acc c
  obtain⟨g1,g2⟩:=CI l (rF acc c) (ES h1 h2 hc hn) (fun x hx=>by
    rcases List.mem_cons.1 (hp.mem_iff.1 hx)with rfl|hx
    ·exact hc
    ·exact h2 x hx) (fun x hx=>h3 x (by simp[hx])) h4.2 (fun x hx hx'=>by
    rcases List.mem_cons.1 (hp.mem_iff.1 hx')with rfl|hx'
    ·exact h4.1 hx
    ·exact h5 x (by simp[hx]) hx')
  exact⟨g1,g2.trans ((hp.append_left l).trans (List.perm_middle))⟩
theorem fR {l:List Cp} (h5:∀x∈l,x.length=5) (hn:l.Nodup):nV (gX l)/\(gX l).Perm l:=by
 obtain⟨h1,h2⟩:=CI l [] List.Pairwise.nil (by simp) h5 hn (by simp)
 rw[List.append_nil]at h2;exact⟨h1,h2⟩
theorem Ds {l m:List Cp} (hl:nV l) (hm:nV m) (h:l.Perm m):l=m:=
 List.Perm.eq_of_pairwise (le:=fun x y=>eK x y=true) (fun a b _ _ h1 h2=>by have:=rD h1 h2;rw[CX]at this;simp at this) hl hm h
theorem BI {l m:List Cp} (h5:∀x∈l,x.length=5) (hn:l.Nodup) (h:l.Perm m):gX l=gX m:=by
 obtain⟨a1,a2⟩:=fR h5 hn;obtain⟨b1,b2⟩:=fR (fun x hx=>h5 x (h.mem_iff.2 hx)) (h.nodup_iff.1 hn)
 exact Ds a1 b1 (a2.trans (h.trans b2.symm))
theorem B1 {l:List Cp} (h5:∀x∈l,x.length=5) (hn:l.Nodup) (le:T5->T5->Bool) (hle:∀x y,le x y=true↔ ¬kx y x):((l.map fH).mergeSort le).map T5.cp=gX l:=by
 have hp:(((l.map fH).mergeSort le).map T5.cp).Perm l:=by
  refine((List.mergeSort_perm _ _).map _).trans ?_;rw[List.map_map]
  have:l.map (T5.cp∘fH)=l:=by
   conv=>rhs;rw[<-List.map_id l]
   exact List.map_congr_left fun x hx=>Aq (h5 x hx)
  rw[this]
 have hpw:=List.pairwise_mergeSort (le:=le) (fun a b c h1 h2=>by
   rw[hle]at *;intro hca;rcases Classical.em (kx a b)with h|h
   ·exact h2 (oc hca h)
   ·have:=nT h h1;subst this;exact h2 hca) (fun a b=>by
   rcases Classical.em (kx b a)with h|h
   ·have:le b a=true:=(hle _ _).2 fun h'=>yQ _ (oc h h')
    simp[this]
   ·have:le a b=true:=(hle _ _).2 h;simp[this]) (l.map fH)
 obtain⟨a1,a2⟩:=fR h5 hn;have hnd:(((l.map fH).mergeSort le).map T5.cp).Nodup:=hp.nodup_iff.2 hn;refine Ds ?_ a1 (hp.trans a2.symm);unfold nV;rw[List.pairwise_map];have hnd':((l.map fH).mergeSort le).Pairwise (· ≠ ·):=(List.pairwise_map.1 hnd).imp fun h e=>h (congrArg _ e)
 refine(hpw.and hnd').imp fun{x y} ⟨h,hne⟩=>?_
 rw[oC,HL,HL];rw[hle]at h;exact Classical.byContradiction fun hh=>hne (nT hh h)
def Ja (v:V):Option Nat:=
 match v with
 | .fn g caps=>match caps with
   | []=>some g
   |_::_=>none
 |_=>none
theorem AP {v:V} {g:Nat} (h:Ja v=some g):v= .fn g []:=by
 unfold Ja at h;split at h
 ·split at h
  ·simp only[M6]at h;subst h;rfl
  ·simp at h
 ·simp at h
def vM (q:List Cp):Prop:=q.Nodup/\(∀x∈q,x.length=5)/\q.length<=1000000
def Da:pU:=fun args res K=>
 match args with
 | [a,f]=>match a with
   | .sa k=>match Ja f with
     |some g=>match ae res k with
      | .arr own esz t=>match own with
        |some e=>match t with
         | .qs n q=>if g==53&&esz==5&&n==5 then vM q/\K (.tp []) (aI res k (.arr (some e) 5 (.qs 5 (gX q))))else False
         |_=>False
        |none=>False
      |_=>False
     |none=>False
   |_=>False
 |_=>False
end Go.Sx
