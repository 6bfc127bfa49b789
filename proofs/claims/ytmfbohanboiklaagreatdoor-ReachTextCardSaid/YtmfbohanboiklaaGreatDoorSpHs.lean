import Derived.Test.YtmfbohanboiklaaGreatDoorSpHa
set_option linter.unusedSimpArgs false
set_option linter.unusedVariables false
namespace Go.Sx
structure T5 where
 a:Int
 b:Int
 c:Int
 d:Int
 e:Int
 deriving Inhabited
def T5.key(x:T5):Key:=⟨x.a,x.b,x.c,x.d,x.e,0⟩
def T5.cp(x:T5):Cp:= [x.a,x.b,x.c,x.d,x.e]
def fI(l:Cp):T5:=⟨aX l 0 0,aX l 1 0,aX l 2 0,aX l 3 0,aX l 4 0⟩
theorem zn{l:Cp}(h:l.length=5):(fI l).cp=l:=by
 match l,h with
 | [a,b,c,d,e],_=>rfl
theorem GK(x:T5):fI x.cp=x:=rfl
theorem H7{l:Cp}(h:l.length=5):b6 (cT l)=l:=by
 match l,h with
 | [a,b,c,d,e],_=>rfl
def km(x y:T5):Prop:=x.a<y.a\/(x.a=y.a/\(x.b<y.b\/(x.b=y.b/\(x.c<y.c\/(x.c=y.c/\(x.d<y.d\/(x.d=y.d/\x.e<y.e)))))))
theorem Ko{a b:Int}:fG a b=0↔a=b:=by
 unfold fG;split
 ·omega
 ·split<;>omega
theorem wF{a b:Int}:fG a b<0↔a<b:=by
 unfold fG;split
 ·omega
 ·split<;>omega
theorem CW(x y:T5):wR x.key y.key<0↔km x y:=by
 unfold wR T5.key km;simp only[ne_eq,Ko];by_cases h1:x.a=y.a
 ·rw[ar (by simpa using h1)]
  by_cases h2:x.b=y.b
  ·rw[ar (by simpa using h2)]
   by_cases h3:x.c=y.c
   ·rw[ar (by simpa using h3)]
    by_cases h4:x.d=y.d
    ·rw[ar (by simpa using h4)]
     by_cases h5:x.e=y.e
     ·rw[ar (by simpa using h5)]
      have:fG 0 0=0:=rfl;omega
     ·rw[au h5,wF];omega
    ·rw[au h4,wF];omega
   ·rw[au h3,wF];omega
  ·rw[au h2,wF];omega
 ·rw[au h1,wF];omega
theorem xZ(x:T5):¬km x x:=by unfold km;omega
theorem oz{x y z:T5}(h:km x y)(k:km y z):km x z:=by unfold km at *;omega
theorem nj{x y:T5}(h:¬km x y)(k:¬km y x):x=y:=by
 have:x.a=y.a/\x.b=y.b/\x.c=y.c/\x.d=y.d/\x.e=y.e:=by unfold km at *;omega
 cases x;cases y;simp_all
theorem nG{x y:Cp}:fC x y=true↔km (fI x) (fI y):=by
 unfold fC;rw[ai];exact CW (fI x) (fI y)
theorem x7{x y:Cp}(hx:x.length=5)(hy:y.length=5)(h:fC x y=false)(k:fC y x=false):x=y:=by
 have h:¬fC x y=true:=by simp[h]
 have k:¬fC y x=true:=by simp[k]
 rw[nG]at h k;have:=congrArg T5.cp (nj h k);rwa [zn hx,zn hy]at this
theorem qN{x y z:Cp}(h:fC x y=true)(k:fC y z=true):fC x z=true:=by
 rw[nG]at *;exact oz h k
theorem Cv(x:Cp):fC x x=false:=by
 have:¬fC x x=true:=by rw[nG];exact xZ _
 simpa using this
def nX(l:List Cp):Prop:=l.Pairwise fun x y=>fC x y=true
theorem AD(l:List Cp)(c:Cp):(wz l c).Perm (c::l):=by
 unfold wz;refine List.perm_middle.trans ?_;rw[List.takeWhile_append_dropWhile]
theorem BJ{l:List Cp}{c:Cp}(hl:nX l)(h5:∀x∈l,x.length=5)(hc:c.length=5)(hn:c∉l):nX (wz l c):=by
 unfold wz;have htd:=List.takeWhile_append_dropWhile (p:=fun x=>fC x c) (l:=l)
 have hpw:(l.takeWhile (fun x=>fC x c)++l.dropWhile (fun x=>fC x c)).Pairwise fun x y=>fC x y=true:=by rw[htd];exact hl
 obtain⟨p1,p2,p3⟩:=List.pairwise_append.1 hpw
 have ht:∀x∈l.takeWhile (fun x=>fC x c),fC x c=true:=fun x hx=>by
  have:=List.all_takeWhile (p:=fun x=>fC x c) (l:=l)
  exact List.all_eq_true.1 this x hx
 have hd:∀y∈l.dropWhile (fun x=>fC x c),fC c y=true:=by
  cases hdw:l.dropWhile (fun x=>fC x c)with
  |nil=>simp
  |cons z r=>
   have hz0:fC z c=false:=by
    have:=List.head_dropWhile_not (fun x=>fC x c) (l:=l) (by rw[hdw];simp)
    simpa[hdw]using this
   have hzl:z∈l:=by rw[<-htd,hdw];simp
   have hz:fC c z=true:=by
    refine Decidable.byContradiction fun hcz=>?_
    have:=x7 (h5 z hzl) hc hz0 (by simpa using hcz)
    exact hn (this▸hzl)
   intro y hy;rcases List.mem_cons.1 hy with rfl|hy
   ·exact hz
   ·rw[hdw]at p2;exact qN hz ((List.pairwise_cons.1 p2).1 y hy)
 unfold nX;rw[List.pairwise_append];refine⟨p1,List.pairwise_cons.2 ⟨hd,p2⟩,fun x hx y hy=>?_⟩
 rcases List.mem_cons.1 hy with rfl|hy
 ·exact ht x hx
 ·exact p3 x hx y hy
theorem B6:∀(l acc:List Cp),nX acc->(∀x∈acc,x.length=5)->(∀x∈l,x.length=5)->l.Nodup->(∀x∈l,x∉acc)->nX (l.foldl wz acc)/\(l.foldl wz acc).Perm (l++acc)
 | [],acc,h1,_,_,_,_=>⟨h1,List.Perm.refl _⟩
 |c::l,acc,h1,h2,h3,h4,h5=>by
  have hc:=h3 c (by simp)
  have hn:=h5 c (by simp)
  rw[List.nodup_cons]at h4;have hp:=AD acc c
  obtain⟨g1,g2⟩:=B6 l (wz acc c) (BJ h1 h2 hc hn) (fun x hx=>by
    rcases List.mem_cons.1 (hp.mem_iff.1 hx)with rfl|hx
    ·exact hc
    ·exact h2 x hx) (fun x hx=>h3 x (by simp[hx])) h4.2 (fun x hx hx'=>by
    rcases List.mem_cons.1 (hp.mem_iff.1 hx')with rfl|hx'
    ·exact h4.1 hx
    ·exact h5 x (by simp[hx]) hx')
  exact⟨g1,g2.trans ((hp.append_left l).trans (List.perm_middle))⟩
theorem lG{l:List Cp}(h5:∀x∈l,x.length=5)(hn:l.Nodup):nX (kr l)/\(kr l).Perm l:=by
 obtain⟨h1,h2⟩:=B6 l [] List.Pairwise.nil (by simp) h5 hn (by simp)
 rw[List.append_nil]at h2;exact⟨h1,h2⟩
theorem DL{l m:List Cp}(hl:nX l)(hm:nX m)(h:l.Perm m):l=m:=
 List.Perm.eq_of_pairwise (le:=fun x y=>fC x y=true) (fun a b _ _ h1 h2=>by have:=qN h1 h2;rw[Cv]at this;simp at this) hl hm h
theorem AM{l m:List Cp}(h5:∀x∈l,x.length=5)(hn:l.Nodup)(h:l.Perm m):kr l=kr m:=by
 obtain⟨a1,a2⟩:=lG h5 hn;obtain⟨b1,b2⟩:=lG (fun x hx=>h5 x (h.mem_iff.2 hx)) (h.nodup_iff.1 hn)
 exact DL a1 b1 (a2.trans (h.trans b2.symm))
theorem AJ{l:List Cp}(h5:∀x∈l,x.length=5)(hn:l.Nodup)(le:T5->T5->Bool)(hle:∀x y,le x y=true↔ ¬km y x):((l.map fI).mergeSort le).map T5.cp=kr l:=by
 have hp:(((l.map fI).mergeSort le).map T5.cp).Perm l:=by
  refine((List.mergeSort_perm _ _).map _).trans ?_;rw[List.map_map]
  have:l.map (T5.cp∘fI)=l:=by
   conv=>rhs;rw[<-List.map_id l]
   exact List.map_congr_left fun x hx=>zn (h5 x hx)
  rw[this]
 have hpw:=List.pairwise_mergeSort (le:=le) (fun a b c h1 h2=>by
   rw[hle]at *;intro hca;rcases Classical.em (km a b)with h|h
   ·exact h2 (oz hca h)
   ·have:=nj h h1;subst this;exact h2 hca) (fun a b=>by
   rcases Classical.em (km b a)with h|h
   ·have:le b a=true:=(hle _ _).2 fun h'=>xZ _ (oz h h')
    simp[this]
   ·have:le a b=true:=(hle _ _).2 h;simp[this]) (l.map fI)
 obtain⟨a1,a2⟩:=lG h5 hn;have hnd:(((l.map fI).mergeSort le).map T5.cp).Nodup:=hp.nodup_iff.2 hn;refine DL ?_ a1 (hp.trans a2.symm);unfold nX;rw[List.pairwise_map];have hnd':((l.map fI).mergeSort le).Pairwise (· ≠ ·):=(List.pairwise_map.1 hnd).imp fun h e=>h (congrArg _ e)
 refine(hpw.and hnd').imp fun{x y} ⟨h,hne⟩=>?_
 rw[nG,GK,GK];rw[hle]at h;exact Classical.byContradiction fun hh=>hne (nj hh h)
def H6(v:V):Option Nat:=
 match v with
 | .fn g caps=>match caps with
   | []=>some g
   |_::_=>none
 |_=>none
theorem Bo{v:V}{g:Nat}(h:H6 v=some g):v= .fn g []:=by
 unfold H6 at h;split at h
 ·split at h
  ·simp only[aa]at h;subst h;rfl
  ·simp at h
 ·simp at h
def uN(q:List Cp):Prop:=q.Nodup/\(∀x∈q,x.length=5)/\q.length<=1000000
def Cn:pb:=fun args res K=>
 match args with
 | [a,f]=>match a with
   | .sa k=>match H6 f with
     |some g=>match aH res k with
      | .arr own esz t=>match own with
        |some e=>match t with
         | .qs n q=>if g==42&&esz==5&&n==5 then uN q/\K (.tp []) (bd res k (.arr (some e) 5 (.qs 5 (kr q))))else False
         |_=>False
        |none=>False
      |_=>False
     |none=>False
   |_=>False
 |_=>False
end Go.Sx
