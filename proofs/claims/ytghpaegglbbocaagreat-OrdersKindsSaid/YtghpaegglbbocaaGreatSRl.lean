import Derived.Test.YtghpaegglbbocaaGreatSpB
import Derived.Test.YtghpaegglbbocaaGreatKS
import Derived.Test.YtghpaegglbbocaaGreatSW
import Derived.Test.YtghpaegglbbocaaGreatSpP
import Derived.Test.YtghpaegglbbocaaGreatSpRd
set_option linter.unusedSimpArgs false
set_option linter.unusedVariables false
namespace Go.Sx
theorem Gt {L:List Obj} {k:Key} {kind:Int} (h:fN L k kind=false):eI L k kind=L:=by
 unfold fN at h;unfold eI;split
 ·rename_i he;rw[decide_eq_true he,Bool.true_and]at h;unfold kC at h;simp only[Bool.or_eq_false_iff,Bool.not_eq_false',Yp]at h;unfold cg;rw[Yv h.1,xJ h.2]
 ·rfl
theorem NZ {L:List Obj} {k:Key} (h:jR L k=false):gf L k=L:=by
 unfold jR at h;unfold gf;split
 ·rename_i he;rw[decide_eq_true he,Bool.true_and]at h;simp only[Bool.not_eq_false',Yp]at h;exact w8 h
 ·rfl
theorem Uu {L:List Obj} {k:Key} {n:Int} (h:jX L k n=false):bu L k n=L:=by
 unfold jX at h;unfold bu;rw[Yu (Yr h)]
theorem Qn {L:List Obj} {k v:Key} (h:iU L k v=false):fM L k v=L:=by
 unfold iU at h;unfold fM;rw[Yu (Yr h)]
end Go.Sx
namespace Go.Sx
theorem TW {L:List Obj} {k:Key} {n:Int} (h:bM L k n=0):aK L k=0/\0<=fF L k:=by
 have he:aK L k=0:=Decidable.byContradiction fun he=>by
  rw[xL he]at h;exact he h
 refine⟨he,?_⟩;unfold bM at h;split at h
 ·split at h
  ·omega
  ·rename_i h';omega
 ·rename_i h';exact absurd h h'
theorem J7 {L:List Obj} {k:Key} (hL:aq L):aq (gf L k):=by
 unfold gf;split
 ·exact FG hL fun o ho=>wc ho
 ·exact hL
theorem OS {L:List Obj} {k v:Key} (hL:aq L):aq (fM L k v):=by
 unfold fM;split
 ·by_cases h:v.oid.toNat<L.length
  ·exact m5 hL (wc (dW hL _ h))
  ·have:cC L v.oid.toNat (xu (ah L v.oid.toNat free))=L:=by unfold cC;exact List.set_eq_of_length_le (by omega)
   rw[this];exact hL
 ·exact hL
theorem TH {L:List Obj} {k:Key} {n:Int} (hL:aq L):aq (bu L k n):=by
 by_cases h:bM L k n=0
 ·exact(L2 hL (TW h).1 h).1
 ·unfold bu;rw[Yu h];exact hL
end Go.Sx
namespace Go.Sx
theorem A4 {L:List Obj} {k:Key} {b:Bytes} (hL:aq L) (h:aU L k=true) (h2:k.kind=3):aq (rX L k b):=(qh hL h h2).2.2
theorem Fk {L:List Obj} {a:VI} (hL:aq L) (h:BB L a=true):aq (IY L a):=by
 unfold BB at h;unfold IY;split at h
 ·simp at h
 ·rename_i h1;rw[Yu h1];split at h
  ·rename_i h2;rw[Yv h2];have h:=Ys h
   have hp:aS L a.key true=0:=by
    unfold cq at h;split at h
    ·assumption
    ·rename_i h3;exact absurd h h3
   obtain⟨a1,a2,_⟩:=lQ hp;unfold eg;rw[Yv h];exact A4 hL a1 a2
  ·rename_i h2;rw[Yu h2];split at h
   ·rename_i h3;rw[Yv h3];have h:=Ys h;obtain⟨a1,a2,_⟩:=lQ h;unfold eD;rw[Yv h];exact A4 hL a1 a2
   ·rename_i h3;rw[Yu h3];have h:=Ys h
    have hp:aS L a.key true=0:=by
     unfold cx at h;split at h
     ·assumption
     ·rename_i h3;exact absurd h h3
    obtain⟨a1,a2,_⟩:=lQ hp;unfold eX;rw[Yv h];exact A4 hL a1 a2
end Go.Sx
namespace Go.Sx
theorem CO {L:List Obj} {k v:Key} {i:Int} (hL:aq L):aq (b7 L k i v):=by
 by_cases h:bc L k i v=0
 ·exact xG (a:=⟨2,i,k,v⟩) hL (by simp[xy,h])
 ·unfold b7;rw[Yu h];exact hL
theorem IA {L:List Obj} {k:Key} (hL:aq L):aq (eT L k):=by
 by_cases h:ay L k 2 true=0
 ·exact xG (a:=⟨3,0,k,k⟩) hL (by simp[xy,h])
 ·unfold eT;rw[Yu h];exact hL
theorem M8 {L:List Obj} {t f:Key} (hL:aq L):aq (dZ L t f):=by
 by_cases h:bG L t f=0
 ·exact xG (a:=⟨4,0,t,f⟩) hL (by simp[xy,h])
 ·unfold dZ;rw[Yu h];exact hL
theorem L4 {L:List Obj} {k:Key} (hL:aq L):aq (eD L k):=by
 by_cases h:aS L k true=0
 ·exact Fk (a:=⟨3,0,0,k,k,⟨#[]⟩⟩) hL (by simp[BB,h])
 ·unfold eD;rw[Yu h];exact hL
theorem N6 {L:List Obj} {t f:Key} (hL:aq L):aq (eX L t f):=by
 by_cases h:cx L t f=0
 ·exact Fk (a:=⟨4,0,0,t,f,⟨#[]⟩⟩) hL (by simp[BB,h])
 ·unfold eX;rw[Yu h];exact hL
theorem eE {c:Prop} [Decidable c] {a b:LH} (ha:aq a.2.2) (hb:aq b.2.2):aq (if c then a else b).2.2:=by split<;>assumption
theorem Vp {L:List Obj} {k:Key} {m:bm} (hL:aq L):aq (dQ L k m).2.2:=by
 unfold dQ;exact eE hL (eE (CO hL) (eE (IA hL) (eE (M8 hL) (eE hL hL))))
theorem VE {L:List Obj} {k:Key} {m:bm} (hL:aq L):aq (dP L k m).2.2:=by
 unfold dP;exact eE hL (eE (Ge hL) (eE (L4 hL) (eE (N6 hL) hL)))
theorem VN {L:List Obj} {k:Key} {m:bm} (hL:aq L):aq (cY L k m).2.2:=by
 unfold cY;exact eE (Fm hL) (eE (Fm hL) (eE (OS hL) (eE (TH hL) (eE hL (J7 hL)))))
theorem U6 {L:List Obj} {k:Key} {m:bm} (hL:aq L):aq (cU L k m).2.2:=by
 have hC:aq (if aO m<0\/11<aO m then L else b7 L (ey k) (aO m+4) m.k0):=by
  split
  ·exact hL
  ·exact CO hL
 unfold cU;exact eE hL (eE hC (eE hL (eE hL (eE (UN hL) (eE hL (T7 hL))))))
theorem UG {L:List Obj} {n:Int} {k:Key} {m:bm} (hL:aq L):aq (ee L n k m).2.2:=by
 unfold ee;exact eE hL (eE (Vp hL) (eE (VE hL) (eE (VN hL) (eE (U6 hL) (eE hL (eE hL hL))))))
theorem Cs {L:List Obj} {k v:Key} {i:Int} (h:gA L k i v=false):b7 L k i v=L:=by unfold gA at h;unfold b7;rw[Yu (Yr h)]
theorem Ic {L:List Obj} {k:Key} (h:la L k=false):eT L k=L:=by unfold la at h;unfold eT;rw[Yu (Yr h)]
theorem Lm {L:List Obj} {t f:Key} (h:jM L t f=false):dZ L t f=L:=by unfold jM at h;unfold dZ;rw[Yu (Yr h)]
theorem Q9 {L:List Obj} {k:Key} {i:Int} {s:ByteArray} (h:jx L k i s=false):eg L k i s=L:=by unfold jx at h;unfold eg;rw[Yu (Yr h)]
theorem JI {L:List Obj} {k:Key} (h:k8 L k=false):eD L k=L:=by unfold k8 at h;unfold eD;rw[Yu (Yr h)]
theorem N4 {L:List Obj} {t f:Key} (h:lC L t f=false):eX L t f=L:=by unfold lC at h;unfold eX;rw[Yu (Yr h)]
theorem Qd {L:List Obj} {i st:Int} (h:my L i st=false):iK L i st=L:=by unfold my at h;unfold iK;rw[Yu (Yr h)]
theorem ff {c:Prop} [Decidable c] {a b:LH} {x y:Bool} {L:List Obj} (ha:x=false->a.2.2=L) (hb:y=false->b.2.2=L) (h:(if c then x else y)=false):(if c then a else b).2.2=L:=by
 by_cases hc:c
 ·rw[Yv hc]at h⊢;exact ha h
 ·rw[Yu hc]at h⊢;exact hb h
theorem V5 {L:List Obj} {k:Key} {m:bm}:jq L k m=false->(dQ L k m).2.2=L:=by
 unfold jq dQ;exact ff (fun _=>rfl) (ff Cs (ff Ic (ff Lm (fun _=>by split<;>rfl))))
theorem V0 {L:List Obj} {k:Key} {m:bm}:jY L k m=false->(dP L k m).2.2=L:=by
 unfold jY dP;exact ff (fun _=>rfl) (ff Q9 (ff JI (ff N4 (fun _=>rfl))))
theorem V6 {L:List Obj} {k:Key} {m:bm}:fT L k m=false->(cY L k m).2.2=L:=by
 unfold fT cY;exact ff Gt (ff Gt (ff Qn (ff Uu (ff (fun _=>rfl) NZ))))
theorem Wu {L:List Obj} {k:Key} {m:bm}:gq L k m=false->(cU L k m).2.2=L:=by
 unfold gq cU;refine ff (fun _=>rfl) (ff (fun h=>?_) (ff (fun _=>rfl) (ff (fun _=>rfl) (ff Qd (ff (fun _=>rfl) SN)))))
 show(if aO m<0\/11<aO m then L else b7 L (ey k) (aO m+4) m.k0)=L
 by_cases hc:aO m<0\/11<aO m
 ·rw[Yv hc]
 ·rw[Yu hc]at h⊢;exact Cs h
theorem TJ {L:List Obj} {n:Int} {k:Key} {m:bm}:rU L k m=false->(ee L n k m).2.2=L:=by
 unfold rU ee
 exact ff (fun _=>rfl) (ff V5 (ff V0 (ff V6 (ff Wu (fun _=>by repeat' split
                                                              all_goals rfl)))))
theorem Tx {L:List Obj} {n:Int} {k:Key} {m:bm} (hL:aq L):aq (dM L n k m):=by
 unfold dM dq;exact eE hL (eE hL (eE hL (UG hL)))
theorem Jp {L:List Obj} {n:Int} {k:Key} {m:bm} (hL:aq L):aq (fo L n k m):=by
 unfold fo;split
 ·exact Tx hL
 ·exact hL
theorem Ue {L:List Obj} {n:Int} {k:Key} {m:bm} (h:eC L n k m=false):fo L n k m=L:=by
 unfold eC at h;unfold fo;by_cases he:bI L n k m=0
 ·rw[he]at h;rw[Yv he];have h:th L (ae L k) (aL L m)=false:=by simpa using h
  unfold th at h;unfold dM dq;exact ff (fun _=>rfl) (ff (fun _=>rfl) (ff (fun _=>rfl) TJ)) h
 ·rw[Yu he]
structure uq where
 key:Key
 msg:bm
 now:Int
def rM (a:uq):V:= .ag [.key a.key,.ag [.it .i64 a.msg.code,.st a.msg.data,.ag [.key a.msg.k0,.key a.msg.k1,.key a.msg.k2]],.it .i64 a.now]
def gY:uq:=⟨void,dg,0⟩
def asks (l:List uq):TL:= .fn (aj l) fun i=>rM (ah l i gY)
def DM (x:List uq):Nat->V:=fun i=>rM (ah x i gY)
def Um (v:V):Option uq:=
 match v with
 | .ag l=>match l with
   | [a,b,c]=>match rK a with
     |some k=>match xU b with
      |some m=>match rI .i64 c with
       |some n=>some ⟨k,m,n⟩
       |none=>none
      |none=>none
     |none=>none
   |_=>none
 |_=>none
theorem Q5:pB Um rM:=by
 intro v x h;unfold Um at h;split at h
 case h_2=>simp at h
 split at h
 case h_2=>simp at h
 rename_i a b c;split at h
 case h_2=>simp at h
 rename_i k hk;split at h
 case h_2=>simp at h
 rename_i m hm;split at h<;>simp only[Ym,reduceCtorEq]at h
 rename_i n hn;subst h;have hg1:∀J,den J b=den J (.ag [.it .i64 m.code,.st m.data,.ag [.key m.k0,.key m.k1,.key m.k2]]):=(tz b m hm).1;have hg2:∀K,ok K b->ok K (.ag [.it .i64 m.code,.st m.data,.ag [.key m.k0,.key m.k1,.key m.k2]]):=(tz b m hm).2;refine⟨fun J=>?_,fun K hK=>?_⟩
 ·have hg1:=hg1 J;simp only[den,bf]at hg1;simp only[den,rM,bf,hg1,(fz .i64 _ _ hn).1 J,(fy _ _ hk).1 J]
 ·obtain⟨h1,h2⟩:=hK;exact⟨⟨(fy _ _ hk).2 K h1.1,hg2 K h1.2.1,(fz .i64 _ _ hn).2 K h1.2.2.1,trivial⟩,by simp[rv]⟩
def ky (L:List Obj) (a:uq):Bool:=eC L a.now a.key a.msg
def fa (L:List Obj) (a:uq):List Obj:=fo L a.now a.key a.msg
def PB:kJ:=Xy Um (fun L x=>aq L/\aw x.msg.data) ky fa
def QL (v:V):Int:=match v with
 | .ag l=>match l with
   | [_,f,_]=>match f with
     | .ag l'=>match l' with
       | [_,s,_]=>match s with
         | .st b=>bW b
         |_=>0
       |_=>0
     |_=>0
   |_=>0
 |_=>0
def XW:Arg TL:=W0 27 some id
theorem Tb:oq XW:=Tv fun l x h=>by simpa using h
def vz (n:Nat) (F:Nat->V):Nat->Bool
 |0=>false
 |j+1=>vz n F j||(decide (j<n)&&decide (100<QL (F j)))
def jh (l:TL):Bool:=match l with
 | .fn n F=>decide (30<b9 n)||vz n F n
 |_=>false
def pF (l:TL):Prop:=∃x:List uq,l=asks x/\∀i,i<aj x->aw (ah x i gY).msg.data
def QJ:Ct:=sF (bk XW iv) (fun x=>some (pF x.1)) fun x=> .bo (jh x.1)
def wk (x:List uq) (g:Int):Prop:=0<=g/\g<=(aj x:Int)/\vz (aj x) (fun i=>rM (ah x i gY)) g.toNat=false
theorem C2 {x:List uq} (h:jh (asks x)=false):¬30<b9 (aj x):=by
 unfold jh asks at h;simp only[Bool.or_eq_false_iff,decide_eq_false_iff_not]at h;exact h.1
theorem z7 {n:Nat} {F:Nat->V} {j:Nat} (hj:j<n) (h:100<QL (F j)):∀k,j<k->vz n F k=true
 |0,hk=>by omega
 |k+1,hk=>by
  unfold vz;by_cases e:j=k
  ·subst e;simp[hj,h]
  ·rw[z7 hj h k (by omega)];rfl
theorem Er {n:Nat} {F:Nat->V} {j:Nat} (h0:vz n F j=false) (h:¬100<QL (F j)):vz n F (j+1)=false:=by
 unfold vz;simp[h0,h]
def C5 (n:Nat) (g:Int):Prop:=0<=g/\g<=(n:Int)
def xf (n:Nat) (g:Int×List Obj):Prop:=0<=g.1/\g.1<=(n:Int)/\aq g.2
def yQ (n:Nat) (g:Int×List Obj):Nat:=n-g.1.toNat
end Go.Sx
