import Derived.Test.YtmfbohanboiklaaGreatSpHu
set_option linter.unusedSimpArgs false
set_option linter.unusedVariables false
set_option maxRecDepth 100000
namespace Go.Sx
abbrev Hx:Nat:=112
abbrev qZ:Nat:=74
abbrev JJ:Nat:=48
abbrev oJ (s:Nat) (S:CS):ae:= .cset Hx qZ 5 (.lp s 0) S.1 S.2
def A5 (v:V):Option Nat:=
 match v with
 | .lp s o=>if o==0 then some s else none
 |_=>none
theorem nU {v:V} {s:Nat} (h:A5 v=some s):v= .lp s 0:=by
 unfold A5 at h;split at h
 ·split at h
  ·rename_i ho;have ho:=JT.1 ho;subst ho;simp only[JP]at h;subst h;rfl
  ·simp at h
 ·simp at h
theorem ah.onSet {P:Program} {f:Nat} {rest:List V} {res:List ae} {K KP:V->List ae->Prop} {b s t e:Nat} {L:List Obj} {S T:CS} {x:V}
  (hb:aa res b=oJ s S) (hs:aW res s= .store t e L) (hid:ij rest=true) (hx:gy x=true)
  (h:ah P f (.lp 0 0::rest) [oJ 1 S,.ro (.store t e L)] (fun v r=>sk x v r/\aa r 0=oJ 1 T) (fun _ _=>False))
  (hK:K x (aG res b (oJ s T))):ah P f (.lp b 0::rest) res K KP:=by
 have hkb:known res b:=by unfold known;rw[hb];simp
 have hks:known res s:=bR hs (by simp)
 have hlb:=ai hkb;have hls:=ai hks;have hne:b≠s:=fun e=>by subst e;unfold aW at hs;rw[hb]at hs;simp at hs
 have hlk:aW res b=oJ s S:=by unfold aW;rw[hb]
 refine ah.frame (pl:= [(b,true),(s,false)]) (args0:= .lp 0 0::rest) (K0:=fun v r=>sk x v r/\aa r 0=oJ 1 T) (KP0:=fun _ _=>False)
  (by simp[dN,bE.2 hkb,bE.2 hks]) (by simp[gJ,cD,oT,hlb,hls,hne,Ne.symm hne]) ?_ ?_ (fun v r hv=>?_) (fun _ _ h=>h.elim)
 ·simp only[cG,cW,jS,idxOf,cD];rw[ey rest hid];simp
 ·have:cX (jS 0 (cD [(b,true),(s,false)])) res [(b,true),(s,false)]= [oJ 1 S,.ro (.store t e L)]:=by simp[cX,hb,hs,dg,cW,cG,jS,idxOf,cD,hne,Ne.symm hne]
  rw[this];exact h
 ·obtain⟨h1,h2⟩:=hv;have hm:merge [(b,true),(s,false)] [] r res=aG res b (oJ s T):=by simp[merge,cK,h2,dg,dH,cW,cG,back,tI]
  exact⟨[],x,rfl,by simp[iH,h2,ev],rfl,gK.gy h1 hx,by rw[hm];exact hK⟩
def Gx {α:Type} (B:lB α) (Q:List Obj->CS->α->Prop) (N:List Obj->CS->α->CS):oR:=fun args res K=>
 match args with
 |a::l=>match IA B l with
  |some x=>match A5 a with
   |some b=>match aa res b with
    | .cset t et n sv D F=>match A5 sv with
      |some s=>match aW res s with
       | .store ts e L=>if t==Hx&&et==qZ&&n==5&&ts==tS&&e==eS then Q L (D,F) x/\K (.tp []) (aG res b (oJ s (N L (D,F) x)))else False
       |_=>False
      |none=>False
    |_=>False
   |none=>False
  |none=>False
 | []=>False
def GL (S:CS) (v:V) (r:List ae):Prop:=
 match aa r 0 with
 | .cset t et n sv D F=>match A5 sv with
   |some s=>if t==Hx&&et==qZ&&n==5&&s==1 then sq (.tp []) v r/\D=S.1/\F=S.2 else False
   |none=>False
 |_=>False
def HM (S:CS) (v:V) (r:List ae):Prop:=
 match Sx.oC r 0 qZ with
 |some r'=>GL S v r'
 |none=>False
theorem Df {S:CS} {v:V} {r:List ae} (h:GL S v r):sk (.tp []) v r/\aa r 0=oJ 1 S:=by
 unfold GL at h;split at h
 case h_2=>exact h.elim
 rename_i t et n sv D F hr;split at h
 case h_2=>exact h.elim
 rename_i s hs;split at h
 case isFalse=>exact h.elim
 rename_i hc;simp only[JR,JT]at hc;obtain⟨⟨⟨rfl,rfl⟩,rfl⟩,rfl⟩:=hc;obtain⟨h1,rfl,rfl⟩:=h;rw[nU hs]at hr;exact⟨cI h1,hr⟩
theorem tC {P:Program} {f:Nat} {α:Type} {B:lB α} {Q:List Obj->CS->α->Prop} {N:List Obj->CS->α->CS} (hB:jN B) (hid:∀a,ij (B.cn a 0)=true)
  (h:∀L S x,Q L S x->bH (fun _=>False) (B.cn x 0)->ah P f (.lp 0 0::B.cn x 0) [oJ 1 S,.ro (.store tS eS L)] (GL (N L S x)) (fun _ _=>False)):qX P f (Gx B Q N):=by
 intro args res K KP hh;unfold Gx at hh;split at hh
 case h_2=>exact hh.elim
 split at hh
 case h_2=>exact hh.elim
 rename_i x hx;split at hh
 case h_2=>exact hh.elim
 rename_i b hb;have hb:=nU hb;subst hb;split at hh
 case h_2=>exact hh.elim
 rename_i t et n sv D F hr;split at hh
 case h_2=>exact hh.elim
 rename_i s hs;have hs:=nU hs;subst hs;split at hh
 case h_2=>exact hh.elim
 rename_i ts e L hl;split at hh
 case isFalse=>exact hh.elim
 rename_i ht;simp only[JR,JT]at ht;obtain⟨⟨⟨⟨rfl,rfl⟩,rfl⟩,rfl⟩,rfl⟩:=ht;obtain⟨hQ,hK⟩:=hh;refine ah.args (ft.k7 (FM hB hid _ x hx)) ?_;refine ah.F3 fun hok=>?_
 refine ah.onSet (S:=(D,F)) (T:=N L (D,F) x) (x:= .tp []) hr hl (hid x) rfl ?_ hK;refine(h L (D,F) x hQ (iN _ (hid x) hok.2)).mono (fun _ _ h=>Df h) fun _ _ h=>h
theorem zY {S:CS} {v:V} {r:List ae} (h:HM S v r):∃r',Sx.oC r 0 qZ=some r'/\GL S v r':=by
 unfold HM at h;split at h
 ·exact⟨_,by assumption,h⟩
 ·exact h.elim
abbrev Jq:Type:=Int×Int×Int×Int×Int×Unit
def EZ:Arg Jq:=H2 (eH iA (eH iA (eH iA (eH iA (eH iA tF)))))
theorem xA:oa EZ:=Ga (cF oD (cF oD (cF oD (cF oD (cF oD iC)))))
def Cg (x:Jq):Key:=⟨x.1,x.2.1,x.2.2.1,x.2.2.2.1,x.2.2.2.2.1,0⟩
abbrev IH (S:CS) (L:List Obj):List ae:= [.blk Hx (.ag [.lp 1 0,.mp 2,.sa 3]),.ro (.store tS eS L),.ms 5 S.1,.que qZ 5 S.2]
def EU:oR:=Gx (eH kA tF) (fun _ S _=>jg S 1000000) fun _ S x=>ju S x.1
def BS:oR:=Gx (eH iA (eH bA tF)) (fun _ S _=>jg S 900000) fun L S x=>eE L S x.1 x.2.1 16
def EY (r:Int):Prop:=0<=r/\r<=7
def Dx:oR:=Gx (eH EZ tF) (fun _ S x=>jg S 800000/\EY (Cg x.1).rights) fun L S x=>vH L S (Cg x.1)
def CQ:oR:=Gx (eH EZ tF) (fun _ S _=>jg S 800000) fun L S x=>Cv L S (Cg x.1)
end Go.Sx
