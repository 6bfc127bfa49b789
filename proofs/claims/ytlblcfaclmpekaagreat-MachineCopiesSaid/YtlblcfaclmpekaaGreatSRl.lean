import Derived.Test.YtlblcfaclmpekaaGreatSpB
import Derived.Test.YtlblcfaclmpekaaGreatKS
import Derived.Test.YtlblcfaclmpekaaGreatSW
import Derived.Test.YtlblcfaclmpekaaGreatSpP
import Derived.Test.YtlblcfaclmpekaaGreatSpQl
import Derived.Test.YtlblcfaclmpekaaGreatSpRd
set_option linter.unusedSimpArgs false
set_option linter.unusedVariables false
namespace Go.Sx
end Go.Sx
namespace Go.Sx
theorem QZ {L:List Obj} {k:Key} {n:Int} (h:bY L k n=0):bc L k=0/\0<=fi L k:=by
 have he:bc L k=0:=Decidable.byContradiction fun he=>by
  rw[Bp he]at h;exact he h
 refine⟨he,?_⟩;unfold bY at h;split at h
 ·split at h
  ·omega
  ·rename_i h';omega
 ·rename_i h';exact absurd h h'
theorem IU {L:List Obj} {k:Key} (hL:aw L):aw (jW L k):=by
 unfold jW;split
 ·exact EA hL fun o ho=>vb ho
 ·exact hL
theorem OB {L:List Obj} {k v:Key} (hL:aw L):aw (iX L k v):=by
 unfold iX;split
 ·by_cases h:v.oid.toNat<L.length
  ·exact jk hL (vb (cG hL _ h))
  ·have:dh L v.oid.toNat (wo (aq L v.oid.toNat free))=L:=by unfold dh;exact List.set_eq_of_length_le (by omega)
   rw[this];exact hL
 ·exact hL
theorem Qd {L:List Obj} {k:Key} {n:Int} (hL:aw L):aw (bn L k n):=by
 by_cases h:bY L k n=0
 ·exact(HX hL (QZ h).1 h).1
 ·unfold bn;rw[VQ h];exact hL
end Go.Sx
namespace Go.Sx
theorem zQ {L:List Obj} {k:Key} {b:Bytes} (hL:aw L) (h:aT L k=true) (h2:k.kind=3):aw (rk L k b):=(pC hL h h2).2.2
theorem E6 {L:List Obj} {a:S3} (hL:aw L) (h:zE L a=true):aw (Ln L a):=by
 unfold zE at h;unfold Ln;split at h
 ·simp at h
 ·rename_i h1;rw[VQ h1];split at h
  ·rename_i h2;rw[VR h2];have h:=VO h
   have hp:bC L a.key true=0:=by
    unfold cZ at h;split at h
    ·assumption
    ·rename_i h3;exact absurd h h3
   obtain⟨a1,a2,_⟩:=vj hp;unfold fb;rw[VR h];exact zQ hL a1 a2
  ·rename_i h2;rw[VQ h2];split at h
   ·rename_i h3;rw[VR h3];have h:=VO h;obtain⟨a1,a2,_⟩:=vj h;unfold fM;rw[VR h];exact zQ hL a1 a2
   ·rename_i h3;rw[VQ h3];have h:=VO h
    have hp:bC L a.key true=0:=by
     unfold cV at h;split at h
     ·assumption
     ·rename_i h3;exact absurd h h3
    obtain⟨a1,a2,_⟩:=vj hp;unfold fS;rw[VR h];exact zQ hL a1 a2
end Go.Sx
namespace Go.Sx
theorem Bu {L:List Obj} {k v:Key} {i:Int} (hL:aw L):aw (dN L k i v):=by
 by_cases h:bE L k i v=0
 ·exact wi (a:=⟨2,i,k,v⟩) hL (by simp[wI,h])
 ·unfold dN;rw[VQ h];exact hL
theorem Hz {L:List Obj} {k:Key} (hL:aw L):aw (ga L k):=by
 by_cases h:aS L k 2 true=0
 ·exact wi (a:=⟨3,0,k,k⟩) hL (by simp[wI,h])
 ·unfold ga;rw[VQ h];exact hL
theorem GU {L:List Obj} {t f:Key} (hL:aw L):aw (fz L t f):=by
 by_cases h:cc L t f=0
 ·exact wi (a:=⟨4,0,t,f⟩) hL (by simp[wI,h])
 ·unfold fz;rw[VQ h];exact hL
theorem JQ {L:List Obj} {k:Key} (hL:aw L):aw (fM L k):=by
 by_cases h:bC L k true=0
 ·exact E6 (a:=⟨3,0,0,k,k,⟨#[]⟩⟩) hL (by simp[zE,h])
 ·unfold fM;rw[VQ h];exact hL
theorem Nd {L:List Obj} {t f:Key} (hL:aw L):aw (fS L t f):=by
 by_cases h:cV L t f=0
 ·exact E6 (a:=⟨4,0,0,t,f,⟨#[]⟩⟩) hL (by simp[zE,h])
 ·unfold fS;rw[VQ h];exact hL
theorem dW {c:Prop} [Decidable c] {a b:O2} (ha:aw a.2.2) (hb:aw b.2.2):aw (if c then a else b).2.2:=by split<;>assumption
theorem To {L:List Obj} {k:Key} {m:bk} (hL:aw L):aw (iz L k m).2.2:=by
 unfold iz;exact dW hL (dW (Bu hL) (dW (Hz hL) (dW (GU hL) (dW hL hL))))
theorem Tn {L:List Obj} {k:Key} {m:bk} (hL:aw L):aw (gV L k m).2.2:=by
 unfold gV;exact dW hL (dW (Em hL) (dW (JQ hL) (dW (Nd hL) hL)))
theorem Sw {L:List Obj} {k:Key} {m:bk} (hL:aw L):aw (ib L k m).2.2:=by
 unfold ib;exact dW (EU hL) (dW (EU hL) (dW (OB hL) (dW (Qd hL) (dW hL (IU hL)))))
theorem Tl {L:List Obj} {k:Key} {m:bk} (hL:aw L):aw (fX L k m).2.2:=by
 have hC:aw (if bf m<0\/11<bf m then L else dN L (eX k) (bf m+4) m.k0):=by
  split
  ·exact hL
  ·exact Bu hL
 unfold fX;exact dW hL (dW hC (dW hL (dW hL (dW (Cm hL) (dW hL (PN hL))))))
theorem P7 {L:List Obj} {n:Int} {k:Key} {m:bk} (hL:aw L):aw (ej L n k m).2.2:=by
 unfold ej;exact dW hL (dW (To hL) (dW (Tn hL) (dW (Sw hL) (dW (Tl hL) (dW hL (dW hL hL))))))
theorem PA {L:List Obj} {n:Int} {k:Key} {m:bk} (hL:aw L):aw (dE L n k m):=by
 unfold dE dt;exact dW hL (dW hL (dW hL (P7 hL)))
theorem Hn {L:List Obj} {n:Int} {k:Key} {m:bk} (hL:aw L):aw (mO L n k m):=by
 unfold mO;split
 ·exact PA hL
 ·exact hL
structure VF where
 key:Key
 msg:bk
 now:Int
end Go.Sx
