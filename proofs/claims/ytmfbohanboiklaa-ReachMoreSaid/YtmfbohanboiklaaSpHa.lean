import Derived.Test.YtmfbohanboiklaaSpHu
set_option linter.unusedSimpArgs false
set_option linter.unusedVariables false
set_option maxRecDepth 100000
namespace Go.Sx
abbrev LB:Nat:=93
abbrev vq:Nat:=43
abbrev NM:Nat:=39
abbrev qG (s:Nat) (S:CS):ah:= .cset LB vq 5 (.lp s 0) S.1 S.2
def Fg (v:V):Option Nat:=
 match v with
 | .lp s o=>if o==0 then some s else none
 |_=>none
theorem pD {v:V} {s:Nat} (h:Fg v=some s):v= .lp s 0:=by
 unfold Fg at h;split at h
 ·split at h
  ·rename_i ho;have ho:=NR.1 ho;subst ho;simp only[NN]at h;subst h;rfl
  ·simp at h
 ·simp at h
theorem ai.onSet {P:Program} {f:Nat} {rest:List V} {res:List ah} {K KP:V->List ah->Prop} {b s t e:Nat} {L:List Obj} {S T:CS} {x:V}
  (hb:ae res b=qG s S) (hs:bp res s= .store t e L) (hid:jJ rest=true) (hx:gx x=true)
  (h:ai P f (.lp 0 0::rest) [qG 1 S,.ro (.store t e L)] (fun v r=>tY x v r/\ae r 0=qG 1 T) (fun _ _=>False))
  (hK:K x (aL res b (qG s T))):ai P f (.lp b 0::rest) res K KP:=by
 have hkb:known res b:=by unfold known;rw[hb];simp
 have hks:known res s:=cG hs (by simp)
 have hlb:=aj hkb;have hls:=aj hks;have hne:b≠s:=fun e=>by subst e;unfold bp at hs;rw[hb]at hs;simp at hs
 have hlk:bp res b=qG s S:=by unfold bp;rw[hb]
 refine ai.frame (pl:= [(b,true),(s,false)]) (args0:= .lp 0 0::rest) (K0:=fun v r=>tY x v r/\ae r 0=qG 1 T) (KP0:=fun _ _=>False)
  (by simp[ev,b8.2 hkb,b8.2 hks]) (by simp[iL,dr,qF,hlb,hls,hne,Ne.symm hne]) ?_ ?_ (fun v r hv=>?_) (fun _ _ h=>h.elim)
 ·simp only[du,dD,lO,idxOf,dr];rw[fk rest hid];simp
 ·have:dF (lO 0 (dr [(b,true),(s,false)])) res [(b,true),(s,false)]= [qG 1 S,.ro (.store t e L)]:=by simp[dF,hb,hs,dL,dD,du,lO,idxOf,dr,hne,Ne.symm hne]
  rw[this];exact h
 ·obtain⟨h1,h2⟩:=hv;have hm:merge [(b,true),(s,false)] [] r res=aL res b (qG s T):=by simp[merge,dt,h2,dL,eh,dD,du,back,v7]
  exact⟨[],x,rfl,by simp[kg,h2,ff],rfl,iJ.gx h1 hx,by rw[hm];exact hK⟩
def Kt {α:Type} (B:lG α) (Q:List Obj->CS->α->Prop) (N:List Obj->CS->α->CS):qp:=fun args res K=>
 match args with
 |a::l=>match Mv B l with
  |some x=>match Fg a with
   |some b=>match ae res b with
    | .cset t et n sv D F=>match Fg sv with
      |some s=>match bp res s with
       | .store ts e L=>if t==LB&&et==vq&&n==5&&ts==tS&&e==eS then Q L (D,F) x/\K (.tp []) (aL res b (qG s (N L (D,F) x)))else False
       |_=>False
      |none=>False
    |_=>False
   |none=>False
  |none=>False
 | []=>False
def Ls (S:CS) (v:V) (r:List ah):Prop:=
 match ae r 0 with
 | .cset t et n sv D F=>match Fg sv with
   |some s=>if t==LB&&et==vq&&n==5&&s==1 then nc (.tp []) v r/\D=S.1/\F=S.2 else False
   |none=>False
 |_=>False
def KT (S:CS) (v:V) (r:List ah):Prop:=
 match Sx.ql r 0 vq with
 |some r'=>Ls S v r'
 |none=>False
theorem Hv {S:CS} {v:V} {r:List ah} (h:Ls S v r):tY (.tp []) v r/\ae r 0=qG 1 S:=by
 unfold Ls at h;split at h
 case h_2=>exact h.elim
 rename_i t et n sv D F hr;split at h
 case h_2=>exact h.elim
 rename_i s hs;split at h
 case isFalse=>exact h.elim
 rename_i hc;simp only[NP,NR]at hc;obtain⟨⟨⟨rfl,rfl⟩,rfl⟩,rfl⟩:=hc;obtain⟨h1,rfl,rfl⟩:=h;rw[pD hs]at hr;exact⟨cj h1,hr⟩
theorem vp {P:Program} {f:Nat} {α:Type} {B:lG α} {Q:List Obj->CS->α->Prop} {N:List Obj->CS->α->CS} (hB:jZ B) (hid:∀a,jJ (B.cn a 0)=true)
  (h:∀L S x,Q L S x->cg (fun _=>False) (B.cn x 0)->ai P f (.lp 0 0::B.cn x 0) [qG 1 S,.ro (.store tS eS L)] (Ls (N L S x)) (fun _ _=>False)):tr P f (Kt B Q N):=by
 intro args res K KP hh;unfold Kt at hh;split at hh
 case h_2=>exact hh.elim
 split at hh
 case h_2=>exact hh.elim
 rename_i x hx;split at hh
 case h_2=>exact hh.elim
 rename_i b hb;have hb:=pD hb;subst hb;split at hh
 case h_2=>exact hh.elim
 rename_i t et n sv D F hr;split at hh
 case h_2=>exact hh.elim
 rename_i s hs;have hs:=pD hs;subst hs;split at hh
 case h_2=>exact hh.elim
 rename_i ts e L hl;split at hh
 case isFalse=>exact hh.elim
 rename_i ht;simp only[NP,NR]at ht;obtain⟨⟨⟨⟨rfl,rfl⟩,rfl⟩,rfl⟩,rfl⟩:=ht;obtain⟨hQ,hK⟩:=hh;refine ai.args (gm.fF (Ji hB hid _ x hx)) ?_;refine ai.JA fun hok=>?_
 refine ai.onSet (S:=(D,F)) (T:=N L (D,F) x) (x:= .tp []) hr hl (hid x) rfl ?_ hK;refine(h L (D,F) x hQ (ke _ (hid x) hok.2)).mono (fun _ _ h=>Hv h) fun _ _ h=>h
theorem C4 {S:CS} {v:V} {r:List ah} (h:KT S v r):∃r',Sx.ql r 0 vq=some r'/\Ls S v r':=by
 unfold KT at h;split at h
 ·exact⟨_,by assumption,h⟩
 ·exact h.elim
def K7 (k:Key):V:= .ag [.it .i64 k.kind,.it .i64 k.oid,.it .i64 k.count,.it .i64 k.call,.it .i64 k.rights]
abbrev Nk:Type:=Int×Int×Int×Int×Int×Unit
def Bc:Arg Nk:=Mf (cy iA (cy iA (cy iA (cy iA (cy iA j8)))))
theorem oz:ll Bc:=JH (a8 mX (a8 mX (a8 mX (a8 mX (a8 mX dn)))))
def rX (x:Nk):Key:=⟨x.1,x.2.1,x.2.2.1,x.2.2.2.1,x.2.2.2.2.1,0⟩
abbrev Mw (S:CS) (L:List Obj):List ah:= [.blk LB (.ag [.lp 1 0,.mp 2,.sa 3]),.ro (.store tS eS L),.ms 5 S.1,.que vq 5 S.2]
def Jc:qp:=Kt (cy kA j8) (fun _ S _=>kG S 1000000) fun _ S x=>kK S x.1
def DD:qp:=Kt (cy iA (cy bA j8)) (fun _ S _=>kG S 900000) fun L S x=>fo L S x.1 x.2.1 16
def Jg (r:Int):Prop:=0<=r/\r<=7
def HJ:qp:=Kt (cy Bc j8) (fun _ S x=>kG S 800000/\Jg (rX x.1).rights) fun L S x=>yn L S (rX x.1)
def Gp:qp:=Kt (cy Bc j8) (fun _ S _=>kG S 800000) fun L S x=>FI L S (rX x.1)
end Go.Sx
