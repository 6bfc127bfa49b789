import Derived.Test.YtghpaegglbbocaaGreatSpB
import Derived.Test.YtghpaegglbbocaaGreatKS
import Derived.Test.YtghpaegglbbocaaGreatSW
import Derived.Test.YtghpaegglbbocaaGreatSpP
import Derived.Test.YtghpaegglbbocaaGreatSpRd
set_option linter.unusedSimpArgs false
set_option linter.unusedVariables false
namespace Go.Sx
theorem Fo {L:List Obj} {k:Key} {kind:Int} (h:fN L k kind=false):eI L k kind=L:=by
 unfold fN at h;unfold eI;split
 ·rename_i he;rw[decide_eq_true he,Bool.true_and]at h;unfold kD at h;simp only[Bool.or_eq_false_iff,Bool.not_eq_false',Yk]at h;unfold ca;rw[Yq h.1,ya h.2]
 ·rfl
theorem Rl {L:List Obj} {k:Key} (h:jP L k=false):gi L k=L:=by
 unfold jP at h;unfold gi;split
 ·rename_i he;rw[decide_eq_true he,Bool.true_and]at h;simp only[Bool.not_eq_false',Yk]at h;exact xI h
 ·rfl
theorem TW {L:List Obj} {k:Key} {n:Int} (h:j5 L k n=false):br L k n=L:=by
 unfold j5 at h;unfold br;rw[Yp (Ym h)]
theorem Pz {L:List Obj} {k v:Key} (h:iY L k v=false):fI L k v=L:=by
 unfold iY at h;unfold fI;rw[Yp (Ym h)]
end Go.Sx
namespace Go.Sx
theorem Sj {L:List Obj} {k:Key} {n:Int} (h:bM L k n=0):aK L k=0/\0<=fH L k:=by
 have he:aK L k=0:=Decidable.byContradiction fun he=>by
  rw[xD he]at h;exact he h
 refine⟨he,?_⟩;unfold bM at h;split at h
 ·split at h
  ·omega
  ·rename_i h';omega
 ·rename_i h';exact absurd h h'
theorem Ln {L:List Obj} {k:Key} (hL:aq L):aq (gi L k):=by
 unfold gi;split
 ·exact Gm hL fun o ho=>wi ho
 ·exact hL
theorem QL {L:List Obj} {k v:Key} (hL:aq L):aq (fI L k v):=by
 unfold fI;split
 ·by_cases h:v.oid.toNat<L.length
  ·exact nk hL (wi (dY hL _ h))
  ·have:cC L v.oid.toNat (xm (ah L v.oid.toNat free))=L:=by unfold cC;exact List.set_eq_of_length_le (by omega)
   rw[this];exact hL
 ·exact hL
theorem Ta {L:List Obj} {k:Key} {n:Int} (hL:aq L):aq (br L k n):=by
 by_cases h:bM L k n=0
 ·exact(I2 hL (Sj h).1 h).1
 ·unfold br;rw[Yp h];exact hL
end Go.Sx
namespace Go.Sx
theorem AN {L:List Obj} {k:Key} {b:Bytes} (hL:aq L) (h:aU L k=true) (h2:k.kind=3):aq (sq L k b):=(p9 hL h h2).2.2
theorem E1 {L:List Obj} {a:Vc} (hL:aq L) (h:BI L a=true):aq (L5 L a):=by
 unfold BI at h;unfold L5;split at h
 ·simp at h
 ·rename_i h1;rw[Yp h1];split at h
  ·rename_i h2;rw[Yq h2];have h:=Yn h
   have hp:aS L a.key true=0:=by
    unfold cq at h;split at h
    ·assumption
    ·rename_i h3;exact absurd h h3
   obtain⟨a1,a2,_⟩:=lP hp;unfold ec;rw[Yq h];exact AN hL a1 a2
  ·rename_i h2;rw[Yp h2];split at h
   ·rename_i h3;rw[Yq h3];have h:=Yn h;obtain⟨a1,a2,_⟩:=lP h;unfold eD;rw[Yq h];exact AN hL a1 a2
   ·rename_i h3;rw[Yp h3];have h:=Yn h
    have hp:aS L a.key true=0:=by
     unfold cy at h;split at h
     ·assumption
     ·rename_i h3;exact absurd h h3
    obtain⟨a1,a2,_⟩:=lP hp;unfold eT;rw[Yq h];exact AN hL a1 a2
end Go.Sx
namespace Go.Sx
theorem C3 {L:List Obj} {k v:Key} {i:Int} (hL:aq L):aq (b6 L k i v):=by
 by_cases h:ba L k i v=0
 ·exact xE (a:=⟨2,i,k,v⟩) hL (by simp[xt,h])
 ·unfold b6;rw[Yp h];exact hL
theorem MF {L:List Obj} {k:Key} (hL:aq L):aq (eQ L k):=by
 by_cases h:ay L k 2 true=0
 ·exact xE (a:=⟨3,0,k,k⟩) hL (by simp[xt,h])
 ·unfold eQ;rw[Yp h];exact hL
theorem Mm {L:List Obj} {t f:Key} (hL:aq L):aq (dV L t f):=by
 by_cases h:bG L t f=0
 ·exact xE (a:=⟨4,0,t,f⟩) hL (by simp[xt,h])
 ·unfold dV;rw[Yp h];exact hL
theorem Jc {L:List Obj} {k:Key} (hL:aq L):aq (eD L k):=by
 by_cases h:aS L k true=0
 ·exact E1 (a:=⟨3,0,0,k,k,⟨#[]⟩⟩) hL (by simp[BI,h])
 ·unfold eD;rw[Yp h];exact hL
theorem QG {L:List Obj} {t f:Key} (hL:aq L):aq (eT L t f):=by
 by_cases h:cy L t f=0
 ·exact E1 (a:=⟨4,0,0,t,f,⟨#[]⟩⟩) hL (by simp[BI,h])
 ·unfold eT;rw[Yp h];exact hL
theorem eE {c:Prop} [Decidable c] {a b:JP} (ha:aq a.2.2) (hb:aq b.2.2):aq (if c then a else b).2.2:=by split<;>assumption
theorem V3 {L:List Obj} {k:Key} {m:bm} (hL:aq L):aq (dO L k m).2.2:=by
 unfold dO;exact eE hL (eE (C3 hL) (eE (MF hL) (eE (Mm hL) (eE hL hL))))
theorem Vq {L:List Obj} {k:Key} {m:bm} (hL:aq L):aq (dM L k m).2.2:=by
 unfold dM;exact eE hL (eE (Fc hL) (eE (Jc hL) (eE (QG hL) hL)))
theorem VC {L:List Obj} {k:Key} {m:bm} (hL:aq L):aq (cY L k m).2.2:=by
 unfold cY;exact eE (Fg hL) (eE (Fg hL) (eE (QL hL) (eE (Ta hL) (eE hL (Ln hL)))))
theorem U1 {L:List Obj} {k:Key} {m:bm} (hL:aq L):aq (cT L k m).2.2:=by
 have hC:aq (if aO m<0\/11<aO m then L else b6 L (eA k) (aO m+4) m.k0):=by
  split
  ·exact hL
  ·exact C3 hL
 unfold cT;exact eE hL (eE hC (eE hL (eE hL (eE (Uk hL) (eE hL (SR hL))))))
theorem Tv {L:List Obj} {n:Int} {k:Key} {m:bm} (hL:aq L):aq (ee L n k m).2.2:=by
 unfold ee;exact eE hL (eE (V3 hL) (eE (Vq hL) (eE (VC hL) (eE (U1 hL) (eE hL (eE hL hL))))))
theorem CC {L:List Obj} {k v:Key} {i:Int} (h:gA L k i v=false):b6 L k i v=L:=by unfold gA at h;unfold b6;rw[Yp (Ym h)]
theorem KV {L:List Obj} {k:Key} (h:lb L k=false):eQ L k=L:=by unfold lb at h;unfold eQ;rw[Yp (Ym h)]
theorem NA {L:List Obj} {t f:Key} (h:jM L t f=false):dV L t f=L:=by unfold jM at h;unfold dV;rw[Yp (Ym h)]
theorem OU {L:List Obj} {k:Key} {i:Int} {s:ByteArray} (h:jt L k i s=false):ec L k i s=L:=by unfold jt at h;unfold ec;rw[Yp (Ym h)]
theorem Mt {L:List Obj} {k:Key} (h:k9 L k=false):eD L k=L:=by unfold k9 at h;unfold eD;rw[Yp (Ym h)]
theorem Qi {L:List Obj} {t f:Key} (h:lG L t f=false):eT L t f=L:=by unfold lG at h;unfold eT;rw[Yp (Ym h)]
theorem PF {L:List Obj} {i st:Int} (h:mj L i st=false):iK L i st=L:=by unfold mj at h;unfold iK;rw[Yp (Ym h)]
theorem fi {c:Prop} [Decidable c] {a b:JP} {x y:Bool} {L:List Obj} (ha:x=false->a.2.2=L) (hb:y=false->b.2.2=L) (h:(if c then x else y)=false):(if c then a else b).2.2=L:=by
 by_cases hc:c
 ·rw[Yq hc]at h⊢;exact ha h
 ·rw[Yp hc]at h⊢;exact hb h
theorem U7 {L:List Obj} {k:Key} {m:bm}:jr L k m=false->(dO L k m).2.2=L:=by
 unfold jr dO;exact fi (fun _=>rfl) (fi CC (fi KV (fi NA (fun _=>by split<;>rfl))))
theorem U8 {L:List Obj} {k:Key} {m:bm}:j6 L k m=false->(dM L k m).2.2=L:=by
 unfold j6 dM;exact fi (fun _=>rfl) (fi OU (fi Mt (fi Qi (fun _=>rfl))))
theorem Wg {L:List Obj} {k:Key} {m:bm}:fU L k m=false->(cY L k m).2.2=L:=by
 unfold fU cY;exact fi Fo (fi Fo (fi Pz (fi TW (fi (fun _=>rfl) Rl))))
theorem VG {L:List Obj} {k:Key} {m:bm}:gq L k m=false->(cT L k m).2.2=L:=by
 unfold gq cT;refine fi (fun _=>rfl) (fi (fun h=>?_) (fi (fun _=>rfl) (fi (fun _=>rfl) (fi PF (fi (fun _=>rfl) UB)))))
 show(if aO m<0\/11<aO m then L else b6 L (eA k) (aO m+4) m.k0)=L
 by_cases hc:aO m<0\/11<aO m
 ·rw[Yq hc]
 ·rw[Yp hc]at h⊢;exact CC h
theorem TO {L:List Obj} {n:Int} {k:Key} {m:bm}:si L k m=false->(ee L n k m).2.2=L:=by
 unfold si ee
 exact fi (fun _=>rfl) (fi U7 (fi U8 (fi Wg (fi VG (fun _=>by repeat' split
                                                              all_goals rfl)))))
theorem S1 {L:List Obj} {n:Int} {k:Key} {m:bm} (hL:aq L):aq (dK L n k m):=by
 unfold dK dn;exact eE hL (eE hL (eE hL (Tv hL)))
theorem M9 {L:List Obj} {n:Int} {k:Key} {m:bm} (hL:aq L):aq (fm L n k m):=by
 unfold fm;split
 ·exact S1 hL
 ·exact hL
theorem Ue {L:List Obj} {n:Int} {k:Key} {m:bm} (h:ey L n k m=false):fm L n k m=L:=by
 unfold ey at h;unfold fm;by_cases he:bI L n k m=0
 ·rw[he]at h;rw[Yq he];have h:ti L (ae L k) (aL L m)=false:=by simpa using h
  unfold ti at h;unfold dK dn;exact fi (fun _=>rfl) (fi (fun _=>rfl) (fi (fun _=>rfl) TO)) h
 ·rw[Yp he]
structure sJ where
 key:Key
 msg:bm
 now:Int
def rQ (a:sJ):V:= .ag [.key a.key,.ag [.it .i64 a.msg.code,.st a.msg.data,.ag [.key a.msg.k0,.key a.msg.k1,.key a.msg.k2]],.it .i64 a.now]
def g8:sJ:=⟨void,dg,0⟩
def asks (l:List sJ):TL:= .fn (aj l) fun i=>rQ (ah l i g8)
def DF (x:List sJ):Nat->V:=fun i=>rQ (ah x i g8)
def Uo (v:V):Option sJ:=
 match v with
 | .ag l=>match l with
   | [a,b,c]=>match rK a with
     |some k=>match yB b with
      |some m=>match rI .i64 c with
       |some n=>some ⟨k,m,n⟩
       |none=>none
      |none=>none
     |none=>none
   |_=>none
 |_=>none
theorem Pd:py Uo rQ:=by
 intro v x h;unfold Uo at h;split at h
 case h_2=>simp at h
 split at h
 case h_2=>simp at h
 rename_i a b c;split at h
 case h_2=>simp at h
 rename_i k hk;split at h
 case h_2=>simp at h
 rename_i m hm;split at h<;>simp only[Yh,reduceCtorEq]at h
 rename_i n hn;subst h;have hg1:∀J,den J b=den J (.ag [.it .i64 m.code,.st m.data,.ag [.key m.k0,.key m.k1,.key m.k2]]):=(tf b m hm).1;have hg2:∀K,ok K b->ok K (.ag [.it .i64 m.code,.st m.data,.ag [.key m.k0,.key m.k1,.key m.k2]]):=(tf b m hm).2;refine⟨fun J=>?_,fun K hK=>?_⟩
 ·have hg1:=hg1 J;simp only[den,bd]at hg1;simp only[den,rQ,bd,hg1,(fy .i64 _ _ hn).1 J,(fz _ _ hk).1 J]
 ·obtain⟨h1,h2⟩:=hK;exact⟨⟨(fz _ _ hk).2 K h1.1,hg2 K h1.2.1,(fy .i64 _ _ hn).2 K h1.2.2.1,trivial⟩,by simp[rr]⟩
def kC (L:List Obj) (a:sJ):Bool:=ey L a.now a.key a.msg
def fa (L:List Obj) (a:sJ):List Obj:=fm L a.now a.key a.msg
def Od:kI:=Xe Uo (fun L x=>aq L/\aw x.msg.data) kC fa
def Rt (v:V):Int:=match v with
 | .ag l=>match l with
   | [_,f,_]=>match f with
     | .ag l'=>match l' with
       | [_,s,_]=>match s with
         | .st b=>bW b
         |_=>0
       |_=>0
     |_=>0
   |_=>0
 |_=>0
def XR:Arg TL:=WN 27 some id
theorem UG:nM XR:=Tw fun l x h=>by simpa using h
def vN (n:Nat) (F:Nat->V):Nat->Bool
 |0=>false
 |j+1=>vN n F j||(decide (j<n)&&decide (100<Rt (F j)))
def jg (l:TL):Bool:=match l with
 | .fn n F=>decide (30<b9 n)||vN n F n
 |_=>false
def pR (l:TL):Prop:=∃x:List sJ,l=asks x/\∀i,i<aj x->aw (ah x i g8).msg.data
def P9:Ct:=sE (bk XR iv) (fun x=>some (pR x.1)) fun x=> .bo (jg x.1)
def wM (x:List sJ) (g:Int):Prop:=0<=g/\g<=(aj x:Int)/\vN (aj x) (fun i=>rQ (ah x i g8)) g.toNat=false
theorem CE {x:List sJ} (h:jg (asks x)=false):¬30<b9 (aj x):=by
 unfold jg asks at h;simp only[Bool.or_eq_false_iff,decide_eq_false_iff_not]at h;exact h.1
theorem zK {n:Nat} {F:Nat->V} {j:Nat} (hj:j<n) (h:100<Rt (F j)):∀k,j<k->vN n F k=true
 |0,hk=>by omega
 |k+1,hk=>by
  unfold vN;by_cases e:j=k
  ·subst e;simp[hj,h]
  ·rw[zK hj h k (by omega)];rfl
theorem D3 {n:Nat} {F:Nat->V} {j:Nat} (h0:vN n F j=false) (h:¬100<Rt (F j)):vN n F (j+1)=false:=by
 unfold vN;simp[h0,h]
def Ca (n:Nat) (g:Int):Prop:=0<=g/\g<=(n:Int)
def ym (n:Nat) (g:Int×List Obj):Prop:=0<=g.1/\g.1<=(n:Int)/\aq g.2
def yM (n:Nat) (g:Int×List Obj):Nat:=n-g.1.toNat
end Go.Sx
