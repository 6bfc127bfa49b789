import Derived.Test.YtghpaegglbbocaaGreatSpB
import Derived.Test.YtghpaegglbbocaaGreatKS
import Derived.Test.YtghpaegglbbocaaGreatSW
import Derived.Test.YtghpaegglbbocaaGreatSpP
import Derived.Test.YtghpaegglbbocaaGreatSpRd
set_option linter.unusedSimpArgs false
set_option linter.unusedVariables false
namespace Go.Sx
theorem EL {L:List Obj} {k:Key} {kind:Int} (h:fL L k kind=false):eF L k kind=L:=by
 unfold fL at h;unfold eF;split
 ·rename_i he;rw[decide_eq_true he,Bool.true_and]at h;unfold km at h;simp only[Bool.or_eq_false_iff,Bool.not_eq_false',XL]at h;unfold b9;rw[XR h.1,wE h.2]
 ·rfl
theorem NJ {L:List Obj} {k:Key} (h:jI L k=false):ga L k=L:=by
 unfold jI at h;unfold ga;split
 ·rename_i he;rw[decide_eq_true he,Bool.true_and]at h;simp only[Bool.not_eq_false',XL]at h;exact xW h
 ·rfl
theorem R4 {L:List Obj} {k:Key} {n:Int} (h:jU L k n=false):bq L k n=L:=by
 unfold jU at h;unfold bq;rw[XQ (XN h)]
theorem QI {L:List Obj} {k v:Key} (h:iP L k v=false):fK L k v=L:=by
 unfold iP at h;unfold fK;rw[XQ (XN h)]
end Go.Sx
namespace Go.Sx
theorem S2 {L:List Obj} {k:Key} {n:Int} (h:bL L k n=0):aK L k=0/\0<=fE L k:=by
 have he:aK L k=0:=Decidable.byContradiction fun he=>by
  rw[yi he]at h;exact he h
 refine⟨he,?_⟩;unfold bL at h;split at h
 ·split at h
  ·omega
  ·rename_i h';omega
 ·rename_i h';exact absurd h h'
theorem Mq {L:List Obj} {k:Key} (hL:aq L):aq (ga L k):=by
 unfold ga;split
 ·exact Fa hL fun o ho=>v7 ho
 ·exact hL
theorem N0 {L:List Obj} {k v:Key} (hL:aq L):aq (fK L k v):=by
 unfold fK;split
 ·by_cases h:v.oid.toNat<L.length
  ·exact m8 hL (v7 (dW hL _ h))
  ·have:cx L v.oid.toNat (x9 (ah L v.oid.toNat free))=L:=by unfold cx;exact List.set_eq_of_length_le (by omega)
   rw[this];exact hL
 ·exact hL
theorem R5 {L:List Obj} {k:Key} {n:Int} (hL:aq L):aq (bq L k n):=by
 by_cases h:bL L k n=0
 ·exact(Nf hL (S2 h).1 h).1
 ·unfold bq;rw[XQ h];exact hL
end Go.Sx
namespace Go.Sx
theorem Ba {L:List Obj} {k:Key} {b:Bytes} (hL:aq L) (h:aU L k=true) (h2:k.kind=3):aq (rU L k b):=(pR hL h h2).2.2
theorem EB {L:List Obj} {a:Ut} (hL:aq L) (h:Bg L a=true):aq (JE L a):=by
 unfold Bg at h;unfold JE;split at h
 ·simp at h
 ·rename_i h1;rw[XQ h1];split at h
  ·rename_i h2;rw[XR h2];have h:=XO h
   have hp:aS L a.key true=0:=by
    unfold cm at h;split at h
    ·assumption
    ·rename_i h3;exact absurd h h3
   obtain⟨a1,a2,_⟩:=lO hp;unfold ea;rw[XR h];exact Ba hL a1 a2
  ·rename_i h2;rw[XQ h2];split at h
   ·rename_i h3;rw[XR h3];have h:=XO h;obtain⟨a1,a2,_⟩:=lO h;unfold eC;rw[XR h];exact Ba hL a1 a2
   ·rename_i h3;rw[XQ h3];have h:=XO h
    have hp:aS L a.key true=0:=by
     unfold cy at h;split at h
     ·assumption
     ·rename_i h3;exact absurd h h3
    obtain⟨a1,a2,_⟩:=lO hp;unfold eQ;rw[XR h];exact Ba hL a1 a2
end Go.Sx
namespace Go.Sx
theorem Cs {L:List Obj} {k v:Key} {i:Int} (hL:aq L):aq (bZ L k i v):=by
 by_cases h:bc L k i v=0
 ·exact xT (a:=⟨2,i,k,v⟩) hL (by simp[xH,h])
 ·unfold bZ;rw[XQ h];exact hL
theorem Na {L:List Obj} {k:Key} (hL:aq L):aq (eM L k):=by
 by_cases h:aw L k 2 true=0
 ·exact xT (a:=⟨3,0,k,k⟩) hL (by simp[xH,h])
 ·unfold eM;rw[XQ h];exact hL
theorem LH {L:List Obj} {t f:Key} (hL:aq L):aq (dZ L t f):=by
 by_cases h:bG L t f=0
 ·exact xT (a:=⟨4,0,t,f⟩) hL (by simp[xH,h])
 ·unfold dZ;rw[XQ h];exact hL
theorem IF {L:List Obj} {k:Key} (hL:aq L):aq (eC L k):=by
 by_cases h:aS L k true=0
 ·exact EB (a:=⟨3,0,0,k,k,⟨#[]⟩⟩) hL (by simp[Bg,h])
 ·unfold eC;rw[XQ h];exact hL
theorem OB {L:List Obj} {t f:Key} (hL:aq L):aq (eQ L t f):=by
 by_cases h:cy L t f=0
 ·exact EB (a:=⟨4,0,0,t,f,⟨#[]⟩⟩) hL (by simp[Bg,h])
 ·unfold eQ;rw[XQ h];exact hL
theorem eH {c:Prop} [Decidable c] {a b:Kz} (ha:aq a.2.2) (hb:aq b.2.2):aq (if c then a else b).2.2:=by split<;>assumption
theorem V4 {L:List Obj} {k:Key} {m:bm} (hL:aq L):aq (dP L k m).2.2:=by
 unfold dP;exact eH hL (eH (Cs hL) (eH (Na hL) (eH (LH hL) (eH hL hL))))
theorem Vd {L:List Obj} {k:Key} {m:bm} (hL:aq L):aq (dQ L k m).2.2:=by
 unfold dQ;exact eH hL (eH (Fx hL) (eH (IF hL) (eH (OB hL) hL)))
theorem UB {L:List Obj} {k:Key} {m:bm} (hL:aq L):aq (c8 L k m).2.2:=by
 unfold c8;exact eH (EK hL) (eH (EK hL) (eH (N0 hL) (eH (R5 hL) (eH hL (Mq hL)))))
theorem Vw {L:List Obj} {k:Key} {m:bm} (hL:aq L):aq (cT L k m).2.2:=by
 have hC:aq (if aO m<0\/11<aO m then L else bZ L (ew k) (aO m+4) m.k0):=by
  split
  ·exact hL
  ·exact Cs hL
 unfold cT;exact eH hL (eH hC (eH hL (eH hL (eH (TT hL) (eH hL (T9 hL))))))
theorem Sw {L:List Obj} {n:Int} {k:Key} {m:bm} (hL:aq L):aq (ef L n k m).2.2:=by
 unfold ef;exact eH hL (eH (V4 hL) (eH (Vd hL) (eH (UB hL) (eH (Vw hL) (eH hL (eH hL hL))))))
theorem Cl {L:List Obj} {k v:Key} {i:Int} (h:gx L k i v=false):bZ L k i v=L:=by unfold gx at h;unfold bZ;rw[XQ (XN h)]
theorem Lc {L:List Obj} {k:Key} (h:k7 L k=false):eM L k=L:=by unfold k7 at h;unfold eM;rw[XQ (XN h)]
theorem IV {L:List Obj} {t f:Key} (h:jF L t f=false):dZ L t f=L:=by unfold jF at h;unfold dZ;rw[XQ (XN h)]
theorem Qo {L:List Obj} {k:Key} {i:Int} {s:ByteArray} (h:jl L k i s=false):ea L k i s=L:=by unfold jl at h;unfold ea;rw[XQ (XN h)]
theorem Lq {L:List Obj} {k:Key} (h:kW L k=false):eC L k=L:=by unfold kW at h;unfold eC;rw[XQ (XN h)]
theorem Pf {L:List Obj} {t f:Key} (h:lk L t f=false):eQ L t f=L:=by unfold lk at h;unfold eQ;rw[XQ (XN h)]
theorem NV {L:List Obj} {i st:Int} (h:mE L i st=false):iw L i st=L:=by unfold mE at h;unfold iw;rw[XQ (XN h)]
theorem fe {c:Prop} [Decidable c] {a b:Kz} {x y:Bool} {L:List Obj} (ha:x=false->a.2.2=L) (hb:y=false->b.2.2=L) (h:(if c then x else y)=false):(if c then a else b).2.2=L:=by
 by_cases hc:c
 ·rw[XR hc]at h⊢;exact ha h
 ·rw[XQ hc]at h⊢;exact hb h
theorem V2 {L:List Obj} {k:Key} {m:bm}:jk L k m=false->(dP L k m).2.2=L:=by
 unfold jk dP;exact fe (fun _=>rfl) (fe Cl (fe Lc (fe IV (fun _=>by split<;>rfl))))
theorem Vj {L:List Obj} {k:Key} {m:bm}:jT L k m=false->(dQ L k m).2.2=L:=by
 unfold jT dQ;exact fe (fun _=>rfl) (fe Qo (fe Lq (fe Pf (fun _=>rfl))))
theorem Vr {L:List Obj} {k:Key} {m:bm}:fR L k m=false->(c8 L k m).2.2=L:=by
 unfold fR c8;exact fe EL (fe EL (fe QI (fe R4 (fe (fun _=>rfl) NJ))))
theorem VG {L:List Obj} {k:Key} {m:bm}:gm L k m=false->(cT L k m).2.2=L:=by
 unfold gm cT;refine fe (fun _=>rfl) (fe (fun h=>?_) (fe (fun _=>rfl) (fe (fun _=>rfl) (fe NV (fe (fun _=>rfl) So)))))
 show(if aO m<0\/11<aO m then L else bZ L (ew k) (aO m+4) m.k0)=L
 by_cases hc:aO m<0\/11<aO m
 ·rw[XR hc]
 ·rw[XQ hc]at h⊢;exact Cl h
theorem Ua {L:List Obj} {n:Int} {k:Key} {m:bm}:rF L k m=false->(ef L n k m).2.2=L:=by
 unfold rF ef
 exact fe (fun _=>rfl) (fe V2 (fe Vj (fe Vr (fe VG (fun _=>by repeat' split
                                                              all_goals rfl)))))
theorem Tq {L:List Obj} {n:Int} {k:Key} {m:bm} (hL:aq L):aq (dL L n k m):=by
 unfold dL dq;exact eH hL (eH hL (eH hL (Sw hL)))
theorem Jb {L:List Obj} {n:Int} {k:Key} {m:bm} (hL:aq L):aq (fq L n k m):=by
 unfold fq;split
 ·exact Tq hL
 ·exact hL
theorem RJ {L:List Obj} {n:Int} {k:Key} {m:bm} (h:ey L n k m=false):fq L n k m=L:=by
 unfold ey at h;unfold fq;by_cases he:bP L n k m=0
 ·rw[he]at h;rw[XR he];have h:tc L (ab L k) (aL L m)=false:=by simpa using h
  unfold tc at h;unfold dL dq;exact fe (fun _=>rfl) (fe (fun _=>rfl) (fe (fun _=>rfl) Ua)) h
 ·rw[XQ he]
structure SM where
 key:Key
 msg:bm
 now:Int
def RM (a:SM):V:= .ag [.key a.key,.ag [.it .i64 a.msg.code,.st a.msg.data,.ag [.key a.msg.k0,.key a.msg.k1,.key a.msg.k2]],.it .i64 a.now]
def RT (v:V):Option SM:=
 match v with
 | .ag l=>match l with
   | [a,b,c]=>match rK a with
     |some k=>match xL b with
      |some m=>match rI .i64 c with
       |some n=>some ⟨k,m,n⟩
       |none=>none
      |none=>none
     |none=>none
   |_=>none
 |_=>none
theorem Nn:pg RT RM:=by
 intro v x h;unfold RT at h;split at h
 case h_2=>simp at h
 split at h
 case h_2=>simp at h
 rename_i a b c;split at h
 case h_2=>simp at h
 rename_i k hk;split at h
 case h_2=>simp at h
 rename_i m hm;split at h<;>simp only[XI,reduceCtorEq]at h
 rename_i n hn;subst h;have hg1:∀J,den J b=den J (.ag [.it .i64 m.code,.st m.data,.ag [.key m.k0,.key m.k1,.key m.k2]]):=(sG b m hm).1;have hg2:∀K,ok K b->ok K (.ag [.it .i64 m.code,.st m.data,.ag [.key m.k0,.key m.k1,.key m.k2]]):=(sG b m hm).2;refine⟨fun J=>?_,fun K hK=>?_⟩
 ·have hg1:=hg1 J;simp only[den,bf]at hg1;simp only[den,RM,bf,hg1,(fy .i64 _ _ hn).1 J,(fx _ _ hk).1 J]
 ·obtain⟨h1,h2⟩:=hK;exact⟨⟨(fx _ _ hk).2 K h1.1,hg2 K h1.2.1,(fy .i64 _ _ hn).2 K h1.2.2.1,trivial⟩,by simp[qY]⟩
def uT (L:List Obj) (a:SM):Bool:=ey L a.now a.key a.msg
def ly (L:List Obj) (a:SM):List Obj:=fq L a.now a.key a.msg
def Qq:kz:=WN RT (fun L x=>aq L/\aA x.msg.data) uT ly
end Go.Sx
