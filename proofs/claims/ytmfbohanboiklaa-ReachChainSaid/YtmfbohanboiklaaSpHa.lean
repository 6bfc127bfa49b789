import Derived.Test.YtmfbohanboiklaaSpHu
set_option linter.unusedSimpArgs false
set_option linter.unusedVariables false
set_option maxRecDepth 100000
namespace Go.Sx
abbrev K2:Nat:=93
abbrev u7:Nat:=43
abbrev MW:Nat:=39
abbrev qh (s:Nat) (S:CS):ah:= .cset K2 u7 5 (.lp s 0) S.1 S.2
def Ex (v:V):Option Nat:=
 match v with
 | .lp s o=>if o==0 then some s else none
 |_=>none
theorem pG {v:V} {s:Nat} (h:Ex v=some s):v= .lp s 0:=by
 unfold Ex at h;split at h
 ·split at h
  ·rename_i ho;have ho:=Na.1 ho;subst ho;simp only[M6]at h;subst h;rfl
  ·simp at h
 ·simp at h
theorem ai.onSet {P:Program} {f:Nat} {rest:List V} {res:List ah} {K KP:V->List ah->Prop} {b s t e:Nat} {L:List Obj} {S T:CS} {x:V}
  (hb:ae res b=qh s S) (hs:bn res s= .store t e L) (hid:js rest=true) (hx:gl x=true)
  (h:ai P f (.lp 0 0::rest) [qh 1 S,.ro (.store t e L)] (fun v r=>uk x v r/\ae r 0=qh 1 T) (fun _ _=>False))
  (hK:K x (aI res b (qh s T))):ai P f (.lp b 0::rest) res K KP:=by
 have hkb:known res b:=by unfold known;rw[hb];simp
 have hks:known res s:=cx hs (by simp)
 have hlb:=aj hkb;have hls:=aj hks;have hne:b≠s:=fun e=>by subst e;unfold bn at hs;rw[hb]at hs;simp at hs
 have hlk:bn res b=qh s S:=by unfold bn;rw[hb]
 refine ai.frame (pl:= [(b,true),(s,false)]) (args0:= .lp 0 0::rest) (K0:=fun v r=>uk x v r/\ae r 0=qh 1 T) (KP0:=fun _ _=>False)
  (by simp[ej,b9.2 hkb,b9.2 hks]) (by simp[iR,dn,qj,hlb,hls,hne,Ne.symm hne]) ?_ ?_ (fun v r hv=>?_) (fun _ _ h=>h.elim)
 ·simp only[dh,dA,k7,idxOf,dn];rw[ff rest hid];simp
 ·have:dw (k7 0 (dn [(b,true),(s,false)])) res [(b,true),(s,false)]= [qh 1 S,.ro (.store t e L)]:=by simp[dw,hb,hs,dH,dA,dh,k7,idxOf,dn,hne,Ne.symm hne]
  rw[this];exact h
 ·obtain⟨h1,h2⟩:=hv;have hm:merge [(b,true),(s,false)] [] r res=aI res b (qh s T):=by simp[merge,df,h2,dH,dY,dA,dh,back,vL]
  exact⟨[],x,rfl,by simp[jT,h2,e9],rfl,iN.gl h1 hx,by rw[hm];exact hK⟩
def J3 {α:Type} (B:lk α) (Q:List Obj->CS->α->Prop) (N:List Obj->CS->α->CS):pU:=fun args res K=>
 match args with
 |a::l=>match Me B l with
  |some x=>match Ex a with
   |some b=>match ae res b with
    | .cset t et n sv D F=>match Ex sv with
      |some s=>match bn res s with
       | .store ts e L=>if t==K2&&et==u7&&n==5&&ts==tS&&e==eS then Q L (D,F) x/\K (.tp []) (aI res b (qh s (N L (D,F) x)))else False
       |_=>False
      |none=>False
    |_=>False
   |none=>False
  |none=>False
 | []=>False
def KU (S:CS) (v:V) (r:List ah):Prop:=
 match ae r 0 with
 | .cset t et n sv D F=>match Ex sv with
   |some s=>if t==K2&&et==u7&&n==5&&s==1 then nz (.tp []) v r/\D=S.1/\F=S.2 else False
   |none=>False
 |_=>False
def Ku (S:CS) (v:V) (r:List ah):Prop:=
 match Sx.pM r 0 u7 with
 |some r'=>KU S v r'
 |none=>False
theorem G8 {S:CS} {v:V} {r:List ah} (h:KU S v r):uk (.tp []) v r/\ae r 0=qh 1 S:=by
 unfold KU at h;split at h
 case h_2=>exact h.elim
 rename_i t et n sv D F hr;split at h
 case h_2=>exact h.elim
 rename_i s hs;split at h
 case isFalse=>exact h.elim
 rename_i hc;simp only[M8,Na]at hc;obtain⟨⟨⟨rfl,rfl⟩,rfl⟩,rfl⟩:=hc;obtain⟨h1,rfl,rfl⟩:=h;rw[pG hs]at hr;exact⟨cc h1,hr⟩
theorem uV {P:Program} {f:Nat} {α:Type} {B:lk α} {Q:List Obj->CS->α->Prop} {N:List Obj->CS->α->CS} (hB:jD B) (hid:∀a,js (B.cn a 0)=true)
  (h:∀L S x,Q L S x->ca (fun _=>False) (B.cn x 0)->ai P f (.lp 0 0::B.cn x 0) [qh 1 S,.ro (.store tS eS L)] (KU (N L S x)) (fun _ _=>False)):sY P f (J3 B Q N):=by
 intro args res K KP hh;unfold J3 at hh;split at hh
 case h_2=>exact hh.elim
 split at hh
 case h_2=>exact hh.elim
 rename_i x hx;split at hh
 case h_2=>exact hh.elim
 rename_i b hb;have hb:=pG hb;subst hb;split at hh
 case h_2=>exact hh.elim
 rename_i t et n sv D F hr;split at hh
 case h_2=>exact hh.elim
 rename_i s hs;have hs:=pG hs;subst hs;split at hh
 case h_2=>exact hh.elim
 rename_i ts e L hl;split at hh
 case isFalse=>exact hh.elim
 rename_i ht;simp only[M8,Na]at ht;obtain⟨⟨⟨⟨rfl,rfl⟩,rfl⟩,rfl⟩,rfl⟩:=ht;obtain⟨hQ,hK⟩:=hh;refine ai.args (gg.gd (Jh hB hid _ x hx)) ?_;refine ai.I6 fun hok=>?_
 refine ai.onSet (S:=(D,F)) (T:=N L (D,F) x) (x:= .tp []) hr hl (hid x) rfl ?_ hK;refine(h L (D,F) x hQ (jQ _ (hid x) hok.2)).mono (fun _ _ h=>G8 h) fun _ _ h=>h
theorem E6 {S:CS} {v:V} {r:List ah} (h:Ku S v r):∃r',Sx.pM r 0 u7=some r'/\KU S v r':=by
 unfold Ku at h;split at h
 ·exact⟨_,by assumption,h⟩
 ·exact h.elim
def L5 (k:Key):V:= .ag [.it .i64 k.kind,.it .i64 k.oid,.it .i64 k.count,.it .i64 k.call,.it .i64 k.rights]
abbrev MK:Type:=Int×Int×Int×Int×Int×Unit
def Ep:Arg MK:=Lx (cD iA (cD iA (cD iA (cD iA (cD iA ku)))))
theorem qp:kK Ep:=IL (bj mJ (bj mJ (bj mJ (bj mJ (bj mJ dv)))))
def vj (x:MK):Key:=⟨x.1,x.2.1,x.2.2.1,x.2.2.2.1,x.2.2.2.2.1,0⟩
abbrev L7 (S:CS) (L:List Obj):List ah:= [.blk K2 (.ag [.lp 1 0,.mp 2,.sa 3]),.ro (.store tS eS L),.ms 5 S.1,.que u7 5 S.2]
def IX:pU:=J3 (cD kA ku) (fun _ S _=>kp S 1000000) fun _ S x=>kz S x.1
def EI:pU:=J3 (cD iA (cD bA ku)) (fun _ S _=>kp S 900000) fun L S x=>fi L S x.1 x.2.1 16
def I8 (r:Int):Prop:=0<=r/\r<=7
def Gq:pU:=J3 (cD Ep ku) (fun _ S x=>kp S 800000/\I8 (vj x.1).rights) fun L S x=>xY L S (vj x.1)
def GW:pU:=J3 (cD Ep ku) (fun _ S _=>kp S 800000) fun L S x=>Fc L S (vj x.1)
end Go.Sx
