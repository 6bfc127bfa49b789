import Derived.Test.YtmfbohanboiklaaSpHu
set_option linter.unusedSimpArgs false
set_option linter.unusedVariables false
set_option maxRecDepth 100000
namespace Go.Sx
abbrev KB:Nat:=93
abbrev vm:Nat:=43
abbrev Me:Nat:=39
abbrev pX (s:Nat) (S:CS):ah:= .cset KB vm 5 (.lp s 0) S.1 S.2
def DF (v:V):Option Nat:=
 match v with
 | .lp s o=>if o==0 then some s else none
 |_=>none
theorem oT {v:V} {s:Nat} (h:DF v=some s):v= .lp s 0:=by
 unfold DF at h;split at h
 ·split at h
  ·rename_i ho;have ho:=Mw.1 ho;subst ho;simp only[Ms]at h;subst h;rfl
  ·simp at h
 ·simp at h
theorem ai.onSet {P:Program} {f:Nat} {rest:List V} {res:List ah} {K KP:V->List ah->Prop} {b s t e:Nat} {L:List Obj} {S T:CS} {x:V}
  (hb:aa res b=pX s S) (hs:bk res s= .store t e L) (hid:jg rest=true) (hx:gj x=true)
  (h:ai P f (.lp 0 0::rest) [pX 1 S,.ro (.store t e L)] (fun v r=>sU x v r/\aa r 0=pX 1 T) (fun _ _=>False))
  (hK:K x (aI res b (pX s T))):ai P f (.lp b 0::rest) res K KP:=by
 have hkb:known res b:=by unfold known;rw[hb];simp
 have hks:known res s:=cw hs (by simp)
 have hlb:=aj hkb;have hls:=aj hks;have hne:b≠s:=fun e=>by subst e;unfold bk at hs;rw[hb]at hs;simp at hs
 have hlk:bk res b=pX s S:=by unfold bk;rw[hb]
 refine ai.frame (pl:= [(b,true),(s,false)]) (args0:= .lp 0 0::rest) (K0:=fun v r=>sU x v r/\aa r 0=pX 1 T) (KP0:=fun _ _=>False)
  (by simp[ei,bX.2 hkb,bX.2 hks]) (by simp[ir,cZ,pZ,hlb,hls,hne,Ne.symm hne]) ?_ ?_ (fun v r hv=>?_) (fun _ _ h=>h.elim)
 ·simp only[dc,dw,kE,idxOf,cZ];rw[eY rest hid];simp
 ·have:dv (kE 0 (cZ [(b,true),(s,false)])) res [(b,true),(s,false)]= [pX 1 S,.ro (.store t e L)]:=by simp[dv,hb,hs,dH,dw,dc,kE,idxOf,cZ,hne,Ne.symm hne]
  rw[this];exact h
 ·obtain⟨h1,h2⟩:=hv;have hm:merge [(b,true),(s,false)] [] r res=aI res b (pX s T):=by simp[merge,df,h2,dH,dV,dw,dc,back,ux]
  exact⟨[],x,rfl,by simp[jr,h2,eT],rfl,iy.gj h1 hx,by rw[hm];exact hK⟩
def Jj {α:Type} (B:kT α) (Q:List Obj->CS->α->Prop) (N:List Obj->CS->α->CS):pn:=fun args res K=>
 match args with
 |a::l=>match Lx B l with
  |some x=>match DF a with
   |some b=>match aa res b with
    | .cset t et n sv D F=>match DF sv with
      |some s=>match bk res s with
       | .store ts e L=>if t==KB&&et==vm&&n==5&&ts==tS&&e==eS then Q L (D,F) x/\K (.tp []) (aI res b (pX s (N L (D,F) x)))else False
       |_=>False
      |none=>False
    |_=>False
   |none=>False
  |none=>False
 | []=>False
def Kk (S:CS) (v:V) (r:List ah):Prop:=
 match aa r 0 with
 | .cset t et n sv D F=>match DF sv with
   |some s=>if t==KB&&et==vm&&n==5&&s==1 then oB (.tp []) v r/\D=S.1/\F=S.2 else False
   |none=>False
 |_=>False
def J1 (S:CS) (v:V) (r:List ah):Prop:=
 match Sx.pk r 0 vm with
 |some r'=>Kk S v r'
 |none=>False
theorem F7 {S:CS} {v:V} {r:List ah} (h:Kk S v r):sU (.tp []) v r/\aa r 0=pX 1 S:=by
 unfold Kk at h;split at h
 case h_2=>exact h.elim
 rename_i t et n sv D F hr;split at h
 case h_2=>exact h.elim
 rename_i s hs;split at h
 case isFalse=>exact h.elim
 rename_i hc;simp only[Mu,Mw]at hc;obtain⟨⟨⟨rfl,rfl⟩,rfl⟩,rfl⟩:=hc;obtain⟨h1,rfl,rfl⟩:=h;rw[oT hs]at hr;exact⟨b9 h1,hr⟩
theorem uu {P:Program} {f:Nat} {α:Type} {B:kT α} {Q:List Obj->CS->α->Prop} {N:List Obj->CS->α->CS} (hB:jT B) (hid:∀a,jg (B.cn a 0)=true)
  (h:∀L S x,Q L S x->b8 (fun _=>False) (B.cn x 0)->ai P f (.lp 0 0::B.cn x 0) [pX 1 S,.ro (.store tS eS L)] (Kk (N L S x)) (fun _ _=>False)):sF P f (Jj B Q N):=by
 intro args res K KP hh;unfold Jj at hh;split at hh
 case h_2=>exact hh.elim
 split at hh
 case h_2=>exact hh.elim
 rename_i x hx;split at hh
 case h_2=>exact hh.elim
 rename_i b hb;have hb:=oT hb;subst hb;split at hh
 case h_2=>exact hh.elim
 rename_i t et n sv D F hr;split at hh
 case h_2=>exact hh.elim
 rename_i s hs;have hs:=oT hs;subst hs;split at hh
 case h_2=>exact hh.elim
 rename_i ts e L hl;split at hh
 case isFalse=>exact hh.elim
 rename_i ht;simp only[Mu,Mw]at ht;obtain⟨⟨⟨⟨rfl,rfl⟩,rfl⟩,rfl⟩,rfl⟩:=ht;obtain⟨hQ,hK⟩:=hh;refine ai.args (fU.fY (IK hB hid _ x hx)) ?_;refine ai.HO fun hok=>?_
 refine ai.onSet (S:=(D,F)) (T:=N L (D,F) x) (x:= .tp []) hr hl (hid x) rfl ?_ hK;refine(h L (D,F) x hQ (jF _ (hid x) hok.2)).mono (fun _ _ h=>F7 h) fun _ _ h=>h
theorem Dj {S:CS} {v:V} {r:List ah} (h:J1 S v r):∃r',Sx.pk r 0 vm=some r'/\Kk S v r':=by
 unfold J1 at h;split at h
 ·exact⟨_,by assumption,h⟩
 ·exact h.elim
def Lg (k:Key):V:= .ag [.it .i64 k.kind,.it .i64 k.oid,.it .i64 k.count,.it .i64 k.call,.it .i64 k.rights]
abbrev L9:Type:=Int×Int×Int×Int×Int×Unit
def Cd:Arg L9:=KK (cH iA (cH iA (cH iA (cH iA (cH iA kB)))))
theorem qv:kD Cd:=HG (bh mA (bh mA (bh mA (bh mA (bh mA dJ)))))
def uN (x:L9):Key:=⟨x.1,x.2.1,x.2.2.1,x.2.2.2.1,x.2.2.2.2.1,0⟩
abbrev Ln (S:CS) (L:List Obj):List ah:= [.blk KB (.ag [.lp 1 0,.mp 2,.sa 3]),.ro (.store tS eS L),.ms 5 S.1,.que vm 5 S.2]
def ID:pn:=Jj (cH kA kB) (fun _ S _=>kc S 1000000) fun _ S x=>ki S x.1
def Ex:pn:=Jj (cH iA (cH bA kB)) (fun _ S _=>kc S 900000) fun L S x=>fa L S x.1 x.2.1 16
def Ir (r:Int):Prop:=0<=r/\r<=7
def EL:pn:=Jj (cH Cd kB) (fun _ S x=>kc S 800000/\Ir (uN x.1).rights) fun L S x=>xq L S (uN x.1)
def GR:pn:=Jj (cH Cd kB) (fun _ S _=>kc S 800000) fun L S x=>EC L S (uN x.1)
end Go.Sx
