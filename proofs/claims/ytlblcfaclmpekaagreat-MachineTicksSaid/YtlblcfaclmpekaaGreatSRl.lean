import Derived.Test.YtlblcfaclmpekaaGreatSpB
import Derived.Test.YtlblcfaclmpekaaGreatKS
import Derived.Test.YtlblcfaclmpekaaGreatSW
import Derived.Test.YtlblcfaclmpekaaGreatSpP
import Derived.Test.YtlblcfaclmpekaaGreatSpRd
set_option linter.unusedSimpArgs false
set_option linter.unusedVariables false
namespace Go.Sx
end Go.Sx
namespace Go.Sx
theorem QR {L:List Obj} {k:Key} {n:Int} (h:bS L k n=0):aV L k=0/\0<=e9 L k:=by
 have he:aV L k=0:=Decidable.byContradiction fun he=>by
  rw[Bs he]at h;exact he h
 refine⟨he,?_⟩;unfold bS at h;split at h
 ·split at h
  ·omega
  ·rename_i h';omega
 ·rename_i h';exact absurd h h'
theorem HQ {L:List Obj} {k:Key} (hL:an L):an (jo L k):=by
 unfold jo;split
 ·exact Dw hL fun o ho=>uP ho
 ·exact hL
theorem LL {L:List Obj} {k v:Key} (hL:an L):an (iJ L k v):=by
 unfold iJ;split
 ·by_cases h:v.oid.toNat<L.length
  ·exact jD hL (uP (cz hL _ h))
  ·have:cS L v.oid.toNat (vx (ai L v.oid.toNat free))=L:=by unfold cS;exact List.set_eq_of_length_le (by omega)
   rw[this];exact hL
 ·exact hL
theorem PY {L:List Obj} {k:Key} {n:Int} (hL:an L):an (bg L k n):=by
 by_cases h:bS L k n=0
 ·exact(Hb hL (QR h).1 h).1
 ·unfold bg;rw[UZ h];exact hL
end Go.Sx
namespace Go.Sx
theorem yH {L:List Obj} {k:Key} {b:Bytes} (hL:an L) (h:aO L k=true) (h2:k.kind=3):an (qO L k b):=(om hL h h2).2.2
theorem Ek {L:List Obj} {a:RN} (hL:an L) (h:yR L a=true):an (G1 L a):=by
 unfold yR at h;unfold G1;split at h
 ·simp at h
 ·rename_i h1;rw[UZ h1];split at h
  ·rename_i h2;rw[U0 h2];have h:=UX h
   have hp:bn L a.key true=0:=by
    unfold cM at h;split at h
    ·assumption
    ·rename_i h3;exact absurd h h3
   obtain⟨a1,a2,_⟩:=u0 hp;unfold eW;rw[U0 h];exact yH hL a1 a2
  ·rename_i h2;rw[UZ h2];split at h
   ·rename_i h3;rw[U0 h3];have h:=UX h;obtain⟨a1,a2,_⟩:=u0 h;unfold fK;rw[U0 h];exact yH hL a1 a2
   ·rename_i h3;rw[UZ h3];have h:=UX h
    have hp:bn L a.key true=0:=by
     unfold cL at h;split at h
     ·assumption
     ·rename_i h3;exact absurd h h3
    obtain⟨a1,a2,_⟩:=u0 hp;unfold fN;rw[U0 h];exact yH hL a1 a2
end Go.Sx
namespace Go.Sx
theorem BC {L:List Obj} {k v:Key} {i:Int} (hL:an L):an (dC L k i v):=by
 by_cases h:bq L k i v=0
 ·exact vS (a:=⟨2,i,k,v⟩) hL (by simp[wQ,h])
 ·unfold dC;rw[UZ h];exact hL
theorem Jf {L:List Obj} {k:Key} (hL:an L):an (fS L k):=by
 by_cases h:aM L k 2 true=0
 ·exact vS (a:=⟨3,0,k,k⟩) hL (by simp[wQ,h])
 ·unfold fS;rw[UZ h];exact hL
theorem Hm {L:List Obj} {t f:Key} (hL:an L):an (fq L t f):=by
 by_cases h:b6 L t f=0
 ·exact vS (a:=⟨4,0,t,f⟩) hL (by simp[wQ,h])
 ·unfold fq;rw[UZ h];exact hL
theorem JV {L:List Obj} {k:Key} (hL:an L):an (fK L k):=by
 by_cases h:bn L k true=0
 ·exact Ek (a:=⟨3,0,0,k,k,⟨#[]⟩⟩) hL (by simp[yR,h])
 ·unfold fK;rw[UZ h];exact hL
theorem MG {L:List Obj} {t f:Key} (hL:an L):an (fN L t f):=by
 by_cases h:cL L t f=0
 ·exact Ek (a:=⟨4,0,0,t,f,⟨#[]⟩⟩) hL (by simp[yR,h])
 ·unfold fN;rw[UZ h];exact hL
theorem dR {c:Prop} [Decidable c] {a b:N2} (ha:an a.2.2) (hb:an b.2.2):an (if c then a else b).2.2:=by split<;>assumption
theorem SC {L:List Obj} {k:Key} {m:bd} (hL:an L):an (iq L k m).2.2:=by
 unfold iq;exact dR hL (dR (BC hL) (dR (Jf hL) (dR (Hm hL) (dR hL hL))))
theorem Sk {L:List Obj} {k:Key} {m:bd} (hL:an L):an (gO L k m).2.2:=by
 unfold gO;exact dR hL (dR (D6 hL) (dR (JV hL) (dR (MG hL) hL)))
theorem RO {L:List Obj} {k:Key} {m:bd} (hL:an L):an (g8 L k m).2.2:=by
 unfold g8;exact dR (DQ hL) (dR (DQ hL) (dR (LL hL) (dR (PY hL) (dR hL (HQ hL)))))
theorem Sc {L:List Obj} {k:Key} {m:bd} (hL:an L):an (fQ L k m).2.2:=by
 have hC:an (if aX m<0\/11<aX m then L else dC L (eR k) (aX m+4) m.k0):=by
  split
  ·exact hL
  ·exact BC hL
 unfold fQ;exact dR hL (dR hC (dR hL (dR hL (dR (Cj hL) (dR hL (QC hL))))))
theorem OE {L:List Obj} {n:Int} {k:Key} {m:bd} (hL:an L):an (dW L n k m).2.2:=by
 unfold dW;exact dR hL (dR (SC hL) (dR (Sk hL) (dR (RO hL) (dR (Sc hL) (dR hL (dR hL hL))))))
theorem Ql {L:List Obj} {n:Int} {k:Key} {m:bd} (hL:an L):an (di L n k m):=by
 unfold di cY;exact dR hL (dR hL (dR hL (OE hL)))
theorem Hl {L:List Obj} {n:Int} {k:Key} {m:bd} (hL:an L):an (lY L n k m):=by
 unfold lY;split
 ·exact Ql hL
 ·exact hL
structure UP where
 key:Key
 msg:bd
 now:Int
theorem E2 {L:List Obj} (h:an L):iV L:=by have:=jy h;unfold iV;omega
end Go.Sx
