import Derived.Test.YtmfbohanboiklaaGreatSpHa
set_option linter.unusedSimpArgs false
set_option linter.unusedVariables false
namespace Go.Sx
structure T5 where
 a:Int
 b:Int
 c:Int
 d:Int
 e:Int
 deriving Inhabited
def T5.key (x:T5):Key:=⟨x.a,x.b,x.c,x.d,x.e,0⟩
def T5.cp (x:T5):Cp:= [x.a,x.b,x.c,x.d,x.e]
def fe (l:Cp):T5:=⟨aB l 0 0,aB l 1 0,aB l 2 0,aB l 3 0,aB l 4 0⟩
theorem xg {l:Cp} (h:l.length=5):(fe l).cp=l:=by
 match l,h with
 | [a,b,c,d,e],_=>rfl
theorem Ev (x:T5):fe x.cp=x:=rfl
theorem E4 {l:Cp} (h:l.length=5):bu (cw l)=l:=by
 match l,h with
 | [a,b,c,d,e],_=>rfl
def js (x y:T5):Prop:=x.a<y.a\/(x.a=y.a/\(x.b<y.b\/(x.b=y.b/\(x.c<y.c\/(x.c=y.c/\(x.d<y.d\/(x.d=y.d/\x.e<y.e)))))))
theorem HH {a b:Int}:eR a b=0↔a=b:=by
 unfold eR;split
 ·omega
 ·split<;>omega
theorem tX {a b:Int}:eR a b<0↔a<b:=by
 unfold eR;split
 ·omega
 ·split<;>omega
theorem zP (x y:T5):vG x.key y.key<0↔js x y:=by
 unfold vG T5.key js;simp only[ne_eq,HH];by_cases h1:x.a=y.a
 ·rw[JX (by simpa using h1)]
  by_cases h2:x.b=y.b
  ·rw[JX (by simpa using h2)]
   by_cases h3:x.c=y.c
   ·rw[JX (by simpa using h3)]
    by_cases h4:x.d=y.d
    ·rw[JX (by simpa using h4)]
     by_cases h5:x.e=y.e
     ·rw[JX (by simpa using h5)]
      have:eR 0 0=0:=rfl;omega
     ·rw[JY h5,tX];omega
    ·rw[JY h4,tX];omega
   ·rw[JY h3,tX];omega
  ·rw[JY h2,tX];omega
 ·rw[JY h1,tX];omega
theorem vL (x:T5):¬js x x:=by unfold js;omega
theorem mB {x y z:T5} (h:js x y) (k:js y z):js x z:=by unfold js at *;omega
theorem mD {x y:T5} (h:¬js x y) (k:¬js y x):x=y:=by
 have:x.a=y.a/\x.b=y.b/\x.c=y.c/\x.d=y.d/\x.e=y.e:=by unfold js at *;omega
 cases x;cases y;simp_all
theorem mK {x y:Cp}:eQ x y=true↔js (fe x) (fe y):=by
 unfold eQ;rw[JS];exact zP (fe x) (fe y)
theorem wV {x y:Cp} (hx:x.length=5) (hy:y.length=5) (h:eQ x y=false) (k:eQ y x=false):x=y:=by
 have h:¬eQ x y=true:=by simp[h]
 have k:¬eQ y x=true:=by simp[k]
 rw[mK]at h k;have:=congrArg T5.cp (mD h k);rwa [xg hx,xg hy]at this
theorem pE {x y z:Cp} (h:eQ x y=true) (k:eQ y z=true):eQ x z=true:=by
 rw[mK]at *;exact mB h k
theorem B7 (x:Cp):eQ x x=false:=by
 have:¬eQ x x=true:=by rw[mK];exact vL _
 simpa using this
def mV (l:List Cp):Prop:=l.Pairwise fun x y=>eQ x y=true
theorem zr (l:List Cp) (c:Cp):(vr l c).Perm (c::l):=by
 unfold vr;refine List.perm_middle.trans ?_;rw[List.takeWhile_append_dropWhile]
theorem BM {l:List Cp} {c:Cp} (hl:mV l) (h5:∀x∈l,x.length=5) (hc:c.length=5) (hn:c∉l):mV (vr l c):=by
 unfold vr;have htd:=List.takeWhile_append_dropWhile (p:=fun x=>eQ x c) (l:=l)
 have hpw:(l.takeWhile (fun x=>eQ x c)++l.dropWhile (fun x=>eQ x c)).Pairwise fun x y=>eQ x y=true:=by rw[htd];exact hl
 obtain⟨p1,p2,p3⟩:=List.pairwise_append.1 hpw
 have ht:∀x∈l.takeWhile (fun x=>eQ x c),eQ x c=true:=fun x hx=>by
  have:=List.all_takeWhile (p:=fun x=>eQ x c) (l:=l)
  exact List.all_eq_true.1 this x hx
 have hd:∀y∈l.dropWhile (fun x=>eQ x c),eQ c y=true:=by
  cases hdw:l.dropWhile (fun x=>eQ x c)with
  |nil=>simp
  |cons z r=>
   have hz0:eQ z c=false:=by
    have:=List.head_dropWhile_not (fun x=>eQ x c) (l:=l) (by rw[hdw];simp)
    simpa[hdw]using this
   have hzl:z∈l:=by rw[<-htd,hdw];simp
   have hz:eQ c z=true:=by
    refine Decidable.byContradiction fun hcz=>?_
    have:=wV (h5 z hzl) hc hz0 (by simpa using hcz)
    exact hn (this▸hzl)
   intro y hy;rcases List.mem_cons.1 hy with rfl|hy
   ·exact hz
   ·rw[hdw]at p2;exact pE hz ((List.pairwise_cons.1 p2).1 y hy)
 unfold mV;rw[List.pairwise_append];refine⟨p1,List.pairwise_cons.2 ⟨hd,p2⟩,fun x hx y hy=>?_⟩
 rcases List.mem_cons.1 hy with rfl|hy
 ·exact ht x hx
 ·exact p3 x hx y hy
theorem AJ:∀(l acc:List Cp),mV acc->(∀x∈acc,x.length=5)->(∀x∈l,x.length=5)->l.Nodup->(∀x∈l,x∉acc)->mV (l.foldl vr acc)/\(l.foldl vr acc).Perm (l++acc)
 | [],acc,h1,_,_,_,_=>⟨h1,List.Perm.refl _⟩
 |c::l,acc,h1,h2,h3,h4,h5=>by
  have hc:=h3 c (by simp)
  have hn:=h5 c (by simp)
  rw[List.nodup_cons]at h4;have hp:=zr acc c
  obtain⟨g1,g2⟩:=AJ l (vr acc c) (BM h1 h2 hc hn) (fun x hx=>by
    rcases List.mem_cons.1 (hp.mem_iff.1 hx)with rfl|hx
    ·exact hc
    ·exact h2 x hx) (fun x hx=>h3 x (by simp[hx])) h4.2 (fun x hx hx'=>by
    rcases List.mem_cons.1 (hp.mem_iff.1 hx')with rfl|hx'
    ·exact h4.1 hx
    ·exact h5 x (by simp[hx]) hx')
  exact⟨g1,g2.trans ((hp.append_left l).trans (List.perm_middle))⟩
theorem ko {l:List Cp} (h5:∀x∈l,x.length=5) (hn:l.Nodup):mV (kg l)/\(kg l).Perm l:=by
 obtain⟨h1,h2⟩:=AJ l [] List.Pairwise.nil (by simp) h5 hn (by simp)
 rw[List.append_nil]at h2;exact⟨h1,h2⟩
theorem BF {l m:List Cp} (hl:mV l) (hm:mV m) (h:l.Perm m):l=m:=
 List.Perm.eq_of_pairwise (le:=fun x y=>eQ x y=true) (fun a b _ _ h1 h2=>by have:=pE h1 h2;rw[B7]at this;simp at this) hl hm h
theorem yn {l m:List Cp} (h5:∀x∈l,x.length=5) (hn:l.Nodup) (h:l.Perm m):kg l=kg m:=by
 obtain⟨a1,a2⟩:=ko h5 hn;obtain⟨b1,b2⟩:=ko (fun x hx=>h5 x (h.mem_iff.2 hx)) (h.nodup_iff.1 hn)
 exact BF a1 b1 (a2.trans (h.trans b2.symm))
theorem yq {l:List Cp} (h5:∀x∈l,x.length=5) (hn:l.Nodup) (le:T5->T5->Bool) (hle:∀x y,le x y=true↔ ¬js y x):((l.map fe).mergeSort le).map T5.cp=kg l:=by
 have hp:(((l.map fe).mergeSort le).map T5.cp).Perm l:=by
  refine((List.mergeSort_perm _ _).map _).trans ?_;rw[List.map_map]
  have:l.map (T5.cp∘fe)=l:=by
   conv=>rhs;rw[<-List.map_id l]
   exact List.map_congr_left fun x hx=>xg (h5 x hx)
  rw[this]
 have hpw:=List.pairwise_mergeSort (le:=le) (fun a b c h1 h2=>by
   rw[hle]at *;intro hca;rcases Classical.em (js a b)with h|h
   ·exact h2 (mB hca h)
   ·have:=mD h h1;subst this;exact h2 hca) (fun a b=>by
   rcases Classical.em (js b a)with h|h
   ·have:le b a=true:=(hle _ _).2 fun h'=>vL _ (mB h h')
    simp[this]
   ·have:le a b=true:=(hle _ _).2 h;simp[this]) (l.map fe)
 obtain⟨a1,a2⟩:=ko h5 hn;have hnd:(((l.map fe).mergeSort le).map T5.cp).Nodup:=hp.nodup_iff.2 hn;refine BF ?_ a1 (hp.trans a2.symm);unfold mV;rw[List.pairwise_map];have hnd':((l.map fe).mergeSort le).Pairwise (· ≠ ·):=(List.pairwise_map.1 hnd).imp fun h e=>h (congrArg _ e)
 refine(hpw.and hnd').imp fun{x y} ⟨h,hne⟩=>?_
 rw[mK,Ev,Ev];rw[hle]at h;exact Classical.byContradiction fun hh=>hne (mD hh h)
def E2 (v:V):Option Nat:=
 match v with
 | .fn g caps=>match caps with
   | []=>some g
   |_::_=>none
 |_=>none
theorem yW {v:V} {g:Nat} (h:E2 v=some g):v= .fn g []:=by
 unfold E2 at h;split at h
 ·split at h
  ·simp only[JP]at h;subst h;rfl
  ·simp at h
 ·simp at h
def sU (q:List Cp):Prop:=q.Nodup/\(∀x∈q,x.length=5)/\q.length<=1000000
def zX:oR:=fun args res K=>
 match args with
 | [a,f]=>match a with
   | .sa k=>match E2 f with
     |some g=>match aa res k with
      | .arr own esz t=>match own with
        |some e=>match t with
         | .qs n q=>if g==54&&esz==5&&n==5 then sU q/\K (.tp []) (aG res k (.arr (some e) 5 (.qs 5 (kg q))))else False
         |_=>False
        |none=>False
      |_=>False
     |none=>False
   |_=>False
 |_=>False
end Go.Sx
