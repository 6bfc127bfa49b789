import Derived.Test.YtghpaegglbbocaaGreatSpB
import Derived.Test.YtghpaegglbbocaaGreatKS
import Derived.Test.YtghpaegglbbocaaGreatSW
import Derived.Test.YtghpaegglbbocaaGreatSpP
import Derived.Test.YtghpaegglbbocaaGreatSpRd
namespace Go.Sx
theorem E1 {L:List Obj} {k:Key} {kind:Int} (h:fN L k kind=false):eH L k kind=L:=by
 unfold fN at h;unfold eH;split
 ·rename_i he;rw[decide_eq_true he,Bool.true_and]at h;unfold j8 at h;simp only[Bool.or_eq_false_iff,Bool.not_eq_false',Yk]at h;unfold ca;rw[Yq h.1,wZ h.2]
 ·rfl
theorem Qe {L:List Obj} {k:Key} (h:jN L k=false):gi L k=L:=by
 unfold jN at h;unfold gi;split
 ·rename_i he;rw[decide_eq_true he,Bool.true_and]at h;simp only[Bool.not_eq_false',Yk]at h;exact ym h
 ·rfl
theorem SA {L:List Obj} {k:Key} {n:Int} (h:jV L k n=false):br L k n=L:=by
 unfold jV at h;unfold br;rw[Yp (Ym h)]
theorem N4 {L:List Obj} {k v:Key} (h:iR L k v=false):fL L k v=L:=by
 unfold iR at h;unfold fL;rw[Yp (Ym h)]
end Go.Sx
namespace Go.Sx
theorem Tq {L:List Obj} {k:Key} {n:Int} (h:bM L k n=0):aK L k=0/\0<=fF L k:=by
 have he:aK L k=0:=Decidable.byContradiction fun he=>by
  rw[xN he]at h;exact he h
 refine⟨he,?_⟩;unfold bM at h;split at h
 ·split at h
  ·omega
  ·rename_i h';omega
 ·rename_i h';exact absurd h h'
theorem KO {L:List Obj} {k:Key} (hL:aq L):aq (gi L k):=by
 unfold gi;split
 ·exact F5 hL fun o ho=>wN ho
 ·exact hL
theorem Pk {L:List Obj} {k v:Key} (hL:aq L):aq (fL L k v):=by
 unfold fL;split
 ·by_cases h:v.oid.toNat<L.length
  ·exact nf hL (wN (dY hL _ h))
  ·have:cB L v.oid.toNat (xB (ah L v.oid.toNat free))=L:=by unfold cB;exact List.set_eq_of_length_le (by omega)
   rw[this];exact hL
 ·exact hL
theorem Up {L:List Obj} {k:Key} {n:Int} (hL:aq L):aq (br L k n):=by
 by_cases h:bM L k n=0
 ·exact(J8 hL (Tq h).1 h).1
 ·unfold br;rw[Yp h];exact hL
end Go.Sx
namespace Go.Sx
theorem Bk {L:List Obj} {k:Key} {b:Bytes} (hL:aq L) (h:aU L k=true) (h2:k.kind=3):aq (sm L k b):=(p9 hL h h2).2.2
theorem Gf {L:List Obj} {a:VC} (hL:aq L) (h:AX L a=true):aq (Ni L a):=by
 unfold AX at h;unfold Ni;split at h
 ·simp at h
 ·rename_i h1;rw[Yp h1];split at h
  ·rename_i h2;rw[Yq h2];have h:=Yn h
   have hp:aS L a.key true=0:=by
    unfold cq at h;split at h
    ·assumption
    ·rename_i h3;exact absurd h h3
   obtain⟨a1,a2,_⟩:=lK hp;unfold eh;rw[Yq h];exact Bk hL a1 a2
  ·rename_i h2;rw[Yp h2];split at h
   ·rename_i h3;rw[Yq h3];have h:=Yn h;obtain⟨a1,a2,_⟩:=lK h;unfold eD;rw[Yq h];exact Bk hL a1 a2
   ·rename_i h3;rw[Yp h3];have h:=Yn h
    have hp:aS L a.key true=0:=by
     unfold cz at h;split at h
     ·assumption
     ·rename_i h3;exact absurd h h3
    obtain⟨a1,a2,_⟩:=lK hp;unfold eV;rw[Yq h];exact Bk hL a1 a2
end Go.Sx
namespace Go.Sx
theorem Dt {L:List Obj} {k v:Key} {i:Int} (hL:aq L):aq (b6 L k i v):=by
 by_cases h:ba L k i v=0
 ·exact xc (a:=⟨2,i,k,v⟩) hL (by simp[yb,h])
 ·unfold b6;rw[Yp h];exact hL
theorem MD {L:List Obj} {k:Key} (hL:aq L):aq (eT L k):=by
 by_cases h:ay L k 2 true=0
 ·exact xc (a:=⟨3,0,k,k⟩) hL (by simp[yb,h])
 ·unfold eT;rw[Yp h];exact hL
theorem IG {L:List Obj} {t f:Key} (hL:aq L):aq (dZ L t f):=by
 by_cases h:bG L t f=0
 ·exact xc (a:=⟨4,0,t,f⟩) hL (by simp[yb,h])
 ·unfold dZ;rw[Yp h];exact hL
theorem Im {L:List Obj} {k:Key} (hL:aq L):aq (eD L k):=by
 by_cases h:aS L k true=0
 ·exact Gf (a:=⟨3,0,0,k,k,⟨#[]⟩⟩) hL (by simp[AX,h])
 ·unfold eD;rw[Yp h];exact hL
theorem RC {L:List Obj} {t f:Key} (hL:aq L):aq (eV L t f):=by
 by_cases h:cz L t f=0
 ·exact Gf (a:=⟨4,0,0,t,f,⟨#[]⟩⟩) hL (by simp[AX,h])
 ·unfold eV;rw[Yp h];exact hL
theorem eI {c:Prop} [Decidable c] {a b:Le} (ha:aq a.2.2) (hb:aq b.2.2):aq (if c then a else b).2.2:=by split<;>assumption
theorem WB {L:List Obj} {k:Key} {m:bm} (hL:aq L):aq (dL L k m).2.2:=by
 unfold dL;exact eI hL (eI (Dt hL) (eI (MD hL) (eI (IG hL) (eI hL hL))))
theorem U4 {L:List Obj} {k:Key} {m:bm} (hL:aq L):aq (dN L k m).2.2:=by
 unfold dN;exact eI hL (eI (Gp hL) (eI (Im hL) (eI (RC hL) hL)))
theorem U0 {L:List Obj} {k:Key} {m:bm} (hL:aq L):aq (cY L k m).2.2:=by
 unfold cY;exact eI (Fk hL) (eI (Fk hL) (eI (Pk hL) (eI (Up hL) (eI hL (KO hL)))))
theorem Vy {L:List Obj} {k:Key} {m:bm} (hL:aq L):aq (cT L k m).2.2:=by
 have hC:aq (if aO m<0\/11<aO m then L else b6 L (eA k) (aO m+4) m.k0):=by
  split
  ·exact hL
  ·exact Dt hL
 unfold cT;exact eI hL (eI hC (eI hL (eI hL (eI (Tc hL) (eI hL (TW hL))))))
theorem Ub {L:List Obj} {n:Int} {k:Key} {m:bm} (hL:aq L):aq (ec L n k m).2.2:=by
 unfold ec;exact eI hL (eI (WB hL) (eI (U4 hL) (eI (U0 hL) (eI (Vy hL) (eI hL (eI hL hL))))))
theorem Cp {L:List Obj} {k v:Key} {i:Int} (h:gy L k i v=false):b6 L k i v=L:=by unfold gy at h;unfold b6;rw[Yp (Ym h)]
theorem LI {L:List Obj} {k:Key} (h:k9 L k=false):eT L k=L:=by unfold k9 at h;unfold eT;rw[Yp (Ym h)]
theorem I2 {L:List Obj} {t f:Key} (h:jM L t f=false):dZ L t f=L:=by unfold jM at h;unfold dZ;rw[Yp (Ym h)]
theorem QT {L:List Obj} {k:Key} {i:Int} {s:ByteArray} (h:jt L k i s=false):eh L k i s=L:=by unfold jt at h;unfold eh;rw[Yp (Ym h)]
theorem Kq {L:List Obj} {k:Key} (h:la L k=false):eD L k=L:=by unfold la at h;unfold eD;rw[Yp (Ym h)]
theorem Qc {L:List Obj} {t f:Key} (h:lC L t f=false):eV L t f=L:=by unfold lC at h;unfold eV;rw[Yp (Ym h)]
theorem Q9 {L:List Obj} {i st:Int} (h:mn L i st=false):iJ L i st=L:=by unfold mn at h;unfold iJ;rw[Yp (Ym h)]
theorem ff {c:Prop} [Decidable c] {a b:Le} {x y:Bool} {L:List Obj} (ha:x=false->a.2.2=L) (hb:y=false->b.2.2=L) (h:(if c then x else y)=false):(if c then a else b).2.2=L:=by
 by_cases hc:c
 ·rw[Yq hc]at h⊢;exact ha h
 ·rw[Yp hc]at h⊢;exact hb h
theorem V9 {L:List Obj} {k:Key} {m:bm}:jo L k m=false->(dL L k m).2.2=L:=by
 unfold jo dL;exact ff (fun _=>rfl) (ff Cp (ff LI (ff I2 (fun _=>by split<;>rfl))))
theorem Wq {L:List Obj} {k:Key} {m:bm}:jW L k m=false->(dN L k m).2.2=L:=by
 unfold jW dN;exact ff (fun _=>rfl) (ff QT (ff Kq (ff Qc (fun _=>rfl))))
theorem VI {L:List Obj} {k:Key} {m:bm}:fT L k m=false->(cY L k m).2.2=L:=by
 unfold fT cY;exact ff E1 (ff E1 (ff N4 (ff SA (ff (fun _=>rfl) Qe))))
theorem VE {L:List Obj} {k:Key} {m:bm}:gu L k m=false->(cT L k m).2.2=L:=by
 unfold gu cT;refine ff (fun _=>rfl) (ff (fun h=>?_) (ff (fun _=>rfl) (ff (fun _=>rfl) (ff Q9 (ff (fun _=>rfl) Uy)))))
 show(if aO m<0\/11<aO m then L else b6 L (eA k) (aO m+4) m.k0)=L
 by_cases hc:aO m<0\/11<aO m
 ·rw[Yq hc]
 ·rw[Yp hc]at h⊢;exact Cp h
theorem Te {L:List Obj} {n:Int} {k:Key} {m:bm}:sf L k m=false->(ec L n k m).2.2=L:=by
 unfold sf ec
 exact ff (fun _=>rfl) (ff V9 (ff Wq (ff VI (ff VE (fun _=>by repeat' split
                                                              all_goals rfl)))))
theorem Ts {L:List Obj} {n:Int} {k:Key} {m:bm} (hL:aq L):aq (dK L n k m):=by
 unfold dK di;exact eI hL (eI hL (eI hL (Ub hL)))
theorem NG {L:List Obj} {n:Int} {k:Key} {m:bm} (hL:aq L):aq (fo L n k m):=by
 unfold fo;split
 ·exact Ts hL
 ·exact hL
theorem SN {L:List Obj} {n:Int} {k:Key} {m:bm} (h:ey L n k m=false):fo L n k m=L:=by
 unfold ey at h;unfold fo;by_cases he:bJ L n k m=0
 ·rw[he]at h;rw[Yq he];have h:tF L (ae L k) (aL L m)=false:=by simpa using h
  unfold tF at h;unfold dK di;exact ff (fun _=>rfl) (ff (fun _=>rfl) (ff (fun _=>rfl) Te)) h
 ·rw[Yp he]
structure tx where
 key:Key
 msg:bm
 now:Int
def se (a:tx):V:= .ag [.key a.key,.ag [.it .i64 a.msg.code,.st a.msg.data,.ag [.key a.msg.k0,.key a.msg.k1,.key a.msg.k2]],.it .i64 a.now]
def gX:tx:=⟨void,dg,0⟩
def asks (l:List tx):TL:= .fn (ai l) fun i=>se (ah l i gX)
def DF (x:List tx):Nat->V:=fun i=>se (ah x i gX)
def SP (v:V):Option tx:=
 match v with
 | .ag l=>match l with
   | [a,b,c]=>match rK a with
     |some k=>match xE b with
      |some m=>match rI .i64 c with
       |some n=>some ⟨k,m,n⟩
       |none=>none
      |none=>none
     |none=>none
   |_=>none
 |_=>none
theorem Rb:pz SP se:=by
 intro v x h;unfold SP at h;split at h
 case h_2=>simp at h
 split at h
 case h_2=>simp at h
 rename_i a b c;split at h
 case h_2=>simp at h
 rename_i k hk;split at h
 case h_2=>simp at h
 rename_i m hm;split at h<;>simp only[Yh,reduceCtorEq]at h
 rename_i n hn;subst h;have hg1:∀J,den J b=den J (.ag [.it .i64 m.code,.st m.data,.ag [.key m.k0,.key m.k1,.key m.k2]]):=(tQ b m hm).1;have hg2:∀K,ok K b->ok K (.ag [.it .i64 m.code,.st m.data,.ag [.key m.k0,.key m.k1,.key m.k2]]):=(tQ b m hm).2;refine⟨fun J=>?_,fun K hK=>?_⟩
 ·have hg1:=hg1 J;simp only[den,bd]at hg1;simp only[den,se,bd,hg1,(fy .i64 _ _ hn).1 J,(fz _ _ hk).1 J]
 ·obtain⟨h1,h2⟩:=hK;exact⟨⟨(fz _ _ hk).2 K h1.1,hg2 K h1.2.1,(fy .i64 _ _ hn).2 K h1.2.2.1,trivial⟩,by simp[rr]⟩
def km (L:List Obj) (a:tx):Bool:=ey L a.now a.key a.msg
def fa (L:List Obj) (a:tx):List Obj:=fo L a.now a.key a.msg
def PL:kH:=Xp SP (fun L x=>aq L/\aw x.msg.data) km fa
def O7 (v:V):Int:=match v with
 | .ag l=>match l with
   | [_,f,_]=>match f with
     | .ag l'=>match l' with
       | [_,s,_]=>match s with
         | .st b=>bW b
         |_=>0
       |_=>0
     |_=>0
   |_=>0
 |_=>0
def XO:Arg TL:=WZ 27 some id
theorem T2:nK XO:=To fun l x h=>by simpa using h
def vu (n:Nat) (F:Nat->V):Nat->Bool
 |0=>false
 |j+1=>vu n F j||(decide (j<n)&&decide (100<O7 (F j)))
def jh (l:TL):Bool:=match l with
 | .fn n F=>decide (30<b9 n)||vu n F n
 |_=>false
def qp (l:TL):Prop:=∃x:List tx,l=asks x/\∀i,i<ai x->aw (ah x i gX).msg.data
def PI:Ct:=sF (bk XO iw) (fun x=>some (qp x.1)) fun x=> .bo (jh x.1)
def wB (x:List tx) (g:Int):Prop:=0<=g/\g<=(ai x:Int)/\vu (ai x) (fun i=>se (ah x i gX)) g.toNat=false
theorem DD {x:List tx} (h:jh (asks x)=false):¬30<b9 (ai x):=by
 unfold jh asks at h;simp only[Bool.or_eq_false_iff,decide_eq_false_iff_not]at h;exact h.1
theorem zj {n:Nat} {F:Nat->V} {j:Nat} (hj:j<n) (h:100<O7 (F j)):∀k,j<k->vu n F k=true
 |0,hk=>by omega
 |k+1,hk=>by
  unfold vu;by_cases e:j=k
  ·subst e;simp[hj,h]
  ·rw[zj hj h k (by omega)];rfl
theorem EB {n:Nat} {F:Nat->V} {j:Nat} (h0:vu n F j=false) (h:¬100<O7 (F j)):vu n F (j+1)=false:=by
 unfold vu;simp[h0,h]
def Dg (n:Nat) (g:Int):Prop:=0<=g/\g<=(n:Int)
def xX (n:Nat) (g:Int×List Obj):Prop:=0<=g.1/\g.1<=(n:Int)/\aq g.2
def wW (n:Nat) (g:Int×List Obj):Nat:=n-g.1.toNat
end Go.Sx
