import Derived.Test.YtmfbohanboiklaaSpHu
set_option linter.unusedSimpArgs false
set_option linter.unusedVariables false
set_option maxRecDepth 100000
namespace Go.Sx
abbrev Lj:Nat:=93
abbrev qH:Nat:=43
abbrev NB:Nat:=39
abbrev qK (s:Nat) (S:CS):ai:= .cset Lj qH 5 (.lp s 0) S.1 S.2
def De (v:V):Option Nat:=
 match v with
 | .lp s o=>if o==0 then some s else none
 |_=>none
theorem pX {v:V} {s:Nat} (h:De v=some s):v= .lp s 0:=by
 unfold De at h;split at h
 ·split at h
  ·rename_i ho;have ho:=N5.1 ho;subst ho;simp only[N1]at h;subst h;rfl
  ·simp at h
 ·simp at h
theorem aj.onSet {P:Program} {f:Nat} {rest:List V} {res:List ai} {K KP:V->List ai->Prop} {b s t e:Nat} {L:List Obj} {S T:CS} {x:V}
  (hb:ae res b=qK s S) (hs:br res s= .store t e L) (hid:jy rest=true) (hx:gL x=true)
  (h:aj P f (.lp 0 0::rest) [qK 1 S,.ro (.store t e L)] (fun v r=>tJ x v r/\ae r 0=qK 1 T) (fun _ _=>False))
  (hK:K x (aM res b (qK s T))):aj P f (.lp b 0::rest) res K KP:=by
 have hkb:known res b:=by unfold known;rw[hb];simp
 have hks:known res s:=cF hs (by simp)
 have hlb:=ak hkb;have hls:=ak hks;have hne:b≠s:=fun e=>by subst e;unfold br at hs;rw[hb]at hs;simp at hs
 have hlk:br res b=qK s S:=by unfold br;rw[hb]
 refine aj.frame (pl:= [(b,true),(s,false)]) (args0:= .lp 0 0::rest) (K0:=fun v r=>tJ x v r/\ae r 0=qK 1 T) (KP0:=fun _ _=>False)
  (by simp[eB,ca.2 hkb,ca.2 hks]) (by simp[iR,dv,qJ,hlb,hls,hne,Ne.symm hne]) ?_ ?_ (fun v r hv=>?_) (fun _ _ h=>h.elim)
 ·simp only[dt,dG,lk,idxOf,dv];rw[fz rest hid];simp
 ·have:dD (lk 0 (dv [(b,true),(s,false)])) res [(b,true),(s,false)]= [qK 1 S,.ro (.store t e L)]:=by simp[dD,hb,hs,dO,dG,dt,lk,idxOf,dv,hne,Ne.symm hne]
  rw[this];exact h
 ·obtain⟨h1,h2⟩:=hv;have hm:merge [(b,true),(s,false)] [] r res=aM res b (qK s T):=by simp[merge,du,h2,dO,ef,dG,dt,back,vf]
  exact⟨[],x,rfl,by simp[jV,h2,fo],rfl,jb.gL h1 hx,by rw[hm];exact hK⟩
def KX {α:Type} (B:kS α) (Q:List Obj->CS->α->Prop) (N:List Obj->CS->α->CS):pd:=fun args res K=>
 match args with
 |a::l=>match MW B l with
  |some x=>match De a with
   |some b=>match ae res b with
    | .cset t et n sv D F=>match De sv with
      |some s=>match br res s with
       | .store ts e L=>if t==Lj&&et==qH&&n==5&&ts==tS&&e==eS then Q L (D,F) x/\K (.tp []) (aM res b (qK s (N L (D,F) x)))else False
       |_=>False
      |none=>False
    |_=>False
   |none=>False
  |none=>False
 | []=>False
def LA (S:CS) (v:V) (r:List ai):Prop:=
 match ae r 0 with
 | .cset t et n sv D F=>match De sv with
   |some s=>if t==Lj&&et==qH&&n==5&&s==1 then pW (.tp []) v r/\D=S.1/\F=S.2 else False
   |none=>False
 |_=>False
def Mc (S:CS) (v:V) (r:List ai):Prop:=
 match Sx.qj r 0 qH with
 |some r'=>LA S v r'
 |none=>False
theorem HN {S:CS} {v:V} {r:List ai} (h:LA S v r):tJ (.tp []) v r/\ae r 0=qK 1 S:=by
 unfold LA at h;split at h
 case h_2=>exact h.elim
 rename_i t et n sv D F hr;split at h
 case h_2=>exact h.elim
 rename_i s hs;split at h
 case isFalse=>exact h.elim
 rename_i hc;simp only[N3,N5]at hc;obtain⟨⟨⟨rfl,rfl⟩,rfl⟩,rfl⟩:=hc;obtain⟨h1,rfl,rfl⟩:=h;rw[pX hs]at hr;exact⟨cK h1,hr⟩
theorem wh {P:Program} {f:Nat} {α:Type} {B:kS α} {Q:List Obj->CS->α->Prop} {N:List Obj->CS->α->CS} (hB:j7 B) (hid:∀a,jy (B.cn a 0)=true)
  (h:∀L S x,Q L S x->cq (fun _=>False) (B.cn x 0)->aj P f (.lp 0 0::B.cn x 0) [qK 1 S,.ro (.store tS eS L)] (LA (N L S x)) (fun _ _=>False)):si P f (KX B Q N):=by
 intro args res K KP hh;unfold KX at hh;split at hh
 case h_2=>exact hh.elim
 split at hh
 case h_2=>exact hh.elim
 rename_i x hx;split at hh
 case h_2=>exact hh.elim
 rename_i b hb;have hb:=pX hb;subst hb;split at hh
 case h_2=>exact hh.elim
 rename_i t et n sv D F hr;split at hh
 case h_2=>exact hh.elim
 rename_i s hs;have hs:=pX hs;subst hs;split at hh
 case h_2=>exact hh.elim
 rename_i ts e L hl;split at hh
 case isFalse=>exact hh.elim
 rename_i ht;simp only[N3,N5]at ht;obtain⟨⟨⟨⟨rfl,rfl⟩,rfl⟩,rfl⟩,rfl⟩:=ht;obtain⟨hQ,hK⟩:=hh;refine aj.args (gq.eZ (Kn hB hid _ x hx)) ?_;refine aj.Ka fun hok=>?_
 refine aj.onSet (S:=(D,F)) (T:=N L (D,F) x) (x:= .tp []) hr hl (hid x) rfl ?_ hK;refine(h L (D,F) x hQ (kb _ (hid x) hok.2)).mono (fun _ _ h=>HN h) fun _ _ h=>h
theorem C1 {S:CS} {v:V} {r:List ai} (h:Mc S v r):∃r',Sx.qj r 0 qH=some r'/\LA S v r':=by
 unfold Mc at h;split at h
 ·exact⟨_,by assumption,h⟩
 ·exact h.elim
def JO (k:Key):V:= .ag [.it .i64 k.kind,.it .i64 k.oid,.it .i64 k.count,.it .i64 k.call,.it .i64 k.rights]
abbrev NI:Type:=Int×Int×Int×Int×Int×Unit
def Ba:Arg NI:=Mq (bR iA (bR iA (bR iA (bR iA (bR iA ji)))))
theorem mz:kR Ba:=Jw (aI jP (aI jP (aI jP (aI jP (aI jP cM)))))
def qG (x:NI):Key:=⟨x.1,x.2.1,x.2.2.1,x.2.2.2.1,x.2.2.2.2.1,0⟩
abbrev Ni (S:CS) (L:List Obj):List ai:= [.blk Lj (.ag [.lp 1 0,.mp 2,.sa 3]),.ro (.store tS eS L),.ms 5 S.1,.que qH 5 S.2]
def JV:pd:=KX (bR kA ji) (fun _ S _=>kN S 1000000) fun _ S x=>kW S x.1
def D1:pd:=KX (bR iA (bR bA ji)) (fun _ S _=>kN S 900000) fun L S x=>fB L S x.1 x.2.1 16
def Ju (r:Int):Prop:=0<=r/\r<=7
def Gp:pd:=KX (bR Ba ji) (fun _ S x=>kN S 800000/\Ju (qG x.1).rights) fun L S x=>yk L S (qG x.1)
def F2:pd:=KX (bR Ba ji) (fun _ S _=>kN S 800000) fun L S x=>FJ L S (qG x.1)
end Go.Sx
