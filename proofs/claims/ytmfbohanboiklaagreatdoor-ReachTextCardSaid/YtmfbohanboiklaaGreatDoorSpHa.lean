import Derived.Test.YtmfbohanboiklaaGreatDoorSpHu
set_option linter.unusedSimpArgs false
set_option linter.unusedVariables false
set_option maxRecDepth 100000
namespace Go.Sx
abbrev Ky:Nat:=83
abbrev sL:Nat:=26
abbrev Mb:Nat:=22
abbrev qd(s:Nat)(S:CS):aI:= .cset Ky sL 5 (.lp s 0) S.1 S.2
def DB(v:V):Option Nat:=
 match v with
 | .lp s o=>if o==0 then some s else none
 |_=>none
theorem o9{v:V}{s:Nat}(h:DB v=some s):v= .lp s 0:=by
 unfold DB at h;split at h
 ·split at h
  ·rename_i ho;have ho:=aj.1 ho;subst ho;simp only[aa]at h;subst h;rfl
  ·simp at h
 ·simp at h
theorem aJ.onSet[Fen]{P:Program}{f:Nat}{rest:List V}{res:List aI}{K KP:V->List aI->Prop}{b s t e:Nat}{L:List Obj}{S T:CS}{x:V}
  (hb:aH res b=qd s S) (hs:bD res s= .store t e L) (hid:jg rest=true) (hx:hU x=true)
  (h:aJ P f (.lp 0 0::rest) [qd 1 S,.ro (.store t e L)] (fun v r=>tn x v r/\aH r 0=qd 1 T) (fun _ _=>False))
  (hK:K x (bd res b (qd s T))):aJ P f (.lp b 0::rest) res K KP:=by
 have hkb:known res b:=by unfold known;rw[hb];simp
 have hks:known res s:=cw hs (by simp)
 have hlb:=aK hkb;have hls:=aK hks;have hne:b≠s:=fun e=>by subst e;unfold bD at hs;rw[hb]at hs;simp at hs
 have hlk:bD res b=qd s S:=by unfold bD;rw[hb]
 refine aJ.frame (pl:= [(b,true),(s,false)]) (args0:= .lp 0 0::rest) (K0:=fun v r=>tn x v r/\aH r 0=qd 1 T) (KP0:=fun _ _=>False)
  (by simp[eJ,ck.2 hkb,ck.2 hks]) (by simp[iU,dB,qa,hlb,hls,hne,Ne.symm hne]) ?_ ?_ (fun v r hv=>?_) (fun _ _ h=>h.elim)
 ·simp only[dC,dR,kP,idxOf,dB];rw[fk rest hid];simp
 ·have:dM (kP 0 (dB [(b,true),(s,false)])) res [(b,true),(s,false)]= [qd 1 S,.ro (.store t e L)]:=by simp[dM,hb,hs,dU,dR,dC,kP,idxOf,dB,hne,Ne.symm hne]
  rw[this];exact h
 ·obtain⟨h1,h2⟩:=hv;have hm:merge [(b,true),(s,false)] [] r res=bd res b (qd s T):=by simp[merge,dw,h2,dU,ey,dR,dC,back,uR]
  exact⟨[],x,rfl,by simp[jI,h2,eV],rfl,iJ.hU h1 hx,by rw[hm];exact hK⟩
def Jk{α:Type}(B:jA α)(Q:List Obj->CS->α->Prop)(N:List Obj->CS->α->CS):pb:=fun args res K=>
 match args with
 |a::l=>match Lk B l with
  |some x=>match DB a with
   |some b=>match aH res b with
    | .cset t et n sv D F=>match DB sv with
      |some s=>match bD res s with
       | .store ts e L=>if t==Ky&&et==sL&&n==5&&ts==tS&&e==eS then Q L (D,F) x/\K (.tp []) (bd res b (qd s (N L (D,F) x)))else False
       |_=>False
      |none=>False
    |_=>False
   |none=>False
  |none=>False
 | []=>False
def J9(S:CS)(v:V)(r:List aI):Prop:=
 match aH r 0 with
 | .cset t et n sv D F=>match DB sv with
   |some s=>if t==Ky&&et==sL&&n==5&&s==1 then pz (.tp []) v r/\D=S.1/\F=S.2 else False
   |none=>False
 |_=>False
def Km(S:CS)(v:V)(r:List aI):Prop:=
 match Sx.pV r 0 sL with
 |some r'=>J9 S v r'
 |none=>False
theorem ES{S:CS}{v:V}{r:List aI}(h:J9 S v r):tn (.tp []) v r/\aH r 0=qd 1 S:=by
 unfold J9 at h;split at h
 case h_2=>exact h.elim
 rename_i t et n sv D F hr;split at h
 case h_2=>exact h.elim
 rename_i s hs;split at h
 case isFalse=>exact h.elim
 rename_i hc;simp only[ah,aj]at hc;obtain⟨⟨⟨rfl,rfl⟩,rfl⟩,rfl⟩:=hc;obtain⟨h1,rfl,rfl⟩:=h;rw[o9 hs]at hr;exact⟨dn h1,hr⟩
theorem vh[Fen]{P:Program}{f:Nat}{α:Type}{B:jA α}{Q:List Obj->CS->α->Prop}{N:List Obj->CS->α->CS}(hB:hX B)(hid:∀a,jg (B.cn a 0)=true)
  (h:∀L S x,Q L S x->cm (fun _=>False) (B.cn x 0)->aJ P f (.lp 0 0::B.cn x 0) [qd 1 S,.ro (.store tS eS L)] (J9 (N L S x)) (fun _ _=>False)):p7 P f (Jk B Q N):=by
 intro args res K KP hh;unfold Jk at hh;split at hh
 case h_2=>exact hh.elim
 split at hh
 case h_2=>exact hh.elim
 rename_i x hx;split at hh
 case h_2=>exact hh.elim
 rename_i b hb;have hb:=o9 hb;subst hb;split at hh
 case h_2=>exact hh.elim
 rename_i t et n sv D F hr;split at hh
 case h_2=>exact hh.elim
 rename_i s hs;have hs:=o9 hs;subst hs;split at hh
 case h_2=>exact hh.elim
 rename_i ts e L hl;split at hh
 case isFalse=>exact hh.elim
 rename_i ht;simp only[ah,aj]at ht;obtain⟨⟨⟨⟨rfl,rfl⟩,rfl⟩,rfl⟩,rfl⟩:=ht;obtain⟨hQ,hK⟩:=hh;refine aJ.args (ga.mh (Iw hB hid _ x hx)) ?_;refine aJ.HO fun hok=>?_
 refine aJ.onSet (S:=(D,F)) (T:=N L (D,F) x) (x:= .tp []) hr hl (hid x) rfl ?_ hK;refine(h L (D,F) x hQ (jM _ (hid x) hok.2)).mono (fun _ _ h=>ES h) fun _ _ h=>h
theorem CN{S:CS}{v:V}{r:List aI}(h:Km S v r):∃r',Sx.pV r 0 sL=some r'/\J9 S v r':=by
 unfold Km at h;split at h
 ·exact⟨_,by assumption,h⟩
 ·exact h.elim
def ye(k:Key):V:= .ag [.it .i64 k.kind,.it .i64 k.oid,.it .i64 k.count,.it .i64 k.call,.it .i64 k.rights]
abbrev LL:Type:=Int×Int×Int×Int×Int×Unit
def Br:Arg LL:=KN (dH iA (dH iA (dH iA (dH iA (dH iA mj)))))
theorem me:mw Br:=HP (bL mD (bL mD (bL mD (bL mD (bL mD ea)))))
def nf(x:LL):Key:=⟨x.1,x.2.1,x.2.2.1,x.2.2.2.1,x.2.2.2.2.1,0⟩
abbrev LG(S:CS)(L:List Obj):List aI:= [.blk Ky (.ag [.lp 1 0,.mp 2,.sa 3]),.ro (.store tS eS L),.ms 5 S.1,.que sL 5 S.2]
def Iq:pb:=Jk (dH kA mj) (fun _ S _=>kc S 1000000) fun _ S x=>kq S x.1
def Cm:pb:=Jk (dH iA (dH bA mj)) (fun _ S _=>kc S 900000) fun L S x=>ft L S x.1 x.2.1 16
def I8(r:Int):Prop:=0<=r/\r<=7
def Fh:pb:=Jk (dH Br mj) (fun _ S x=>kc S 800000/\I8 (nf x.1).rights) fun L S x=>xz L S (nf x.1)
def Gy:pb:=Jk (dH Br mj) (fun _ S _=>kc S 800000) fun L S x=>Er L S (nf x.1)
end Go.Sx
