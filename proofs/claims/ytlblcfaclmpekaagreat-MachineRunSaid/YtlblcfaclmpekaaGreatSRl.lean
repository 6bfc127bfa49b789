import Derived.Test.YtlblcfaclmpekaaGreatSpB
import Derived.Test.YtlblcfaclmpekaaGreatKS
import Derived.Test.YtlblcfaclmpekaaGreatSW
import Derived.Test.YtlblcfaclmpekaaGreatSpP
import Derived.Test.YtlblcfaclmpekaaGreatSpRd
set_option linter.unusedSimpArgs false
set_option linter.unusedVariables false
namespace Go.Sx
end Go.Sx
namespace Go.Sx
theorem Ra {L:List Obj} {k:Key} {n:Int} (h:bY L k n=0):aY L k=0/\0<=fm L k:=by
 have he:aY L k=0:=Decidable.byContradiction fun he=>by
  rw[Ay he]at h;exact he h
 refine⟨he,?_⟩;unfold bY at h;split at h
 ·split at h
  ·omega
  ·rename_i h';omega
 ·rename_i h';exact absurd h h'
theorem JO {L:List Obj} {k:Key} (hL:ar L):ar (jH L k):=by
 unfold jH;split
 ·exact Er hL fun o ho=>vp ho
 ·exact hL
theorem ND {L:List Obj} {k v:Key} (hL:ar L):ar (iW L k v):=by
 unfold iW;split
 ·by_cases h:v.oid.toNat<L.length
  ·exact jj hL (vp (cH hL _ h))
  ·have:di L v.oid.toNat (xh (ak L v.oid.toNat free))=L:=by unfold di;exact List.set_eq_of_length_le (by omega)
   rw[this];exact hL
 ·exact hL
theorem RG {L:List Obj} {k:Key} {n:Int} (hL:ar L):ar (bk L k n):=by
 by_cases h:bY L k n=0
 ·exact(Ka hL (Ra h).1 h).1
 ·unfold bk;rw[VM h];exact hL
end Go.Sx
namespace Go.Sx
theorem Ad {L:List Obj} {k:Key} {b:Bytes} (hL:ar L) (h:aQ L k=true) (h2:k.kind=3):ar (qX L k b):=(pU hL h h2).2.2
theorem Ed {L:List Obj} {a:SP} (hL:ar L) (h:zo L a=true):ar (HY L a):=by
 unfold zo at h;unfold HY;split at h
 ·simp at h
 ·rename_i h1;rw[VM h1];split at h
  ·rename_i h2;rw[VN h2];have h:=VK h
   have hp:bz L a.key true=0:=by
    unfold cY at h;split at h
    ·assumption
    ·rename_i h3;exact absurd h h3
   obtain⟨a1,a2,_⟩:=vj hp;unfold ff;rw[VN h];exact Ad hL a1 a2
  ·rename_i h2;rw[VM h2];split at h
   ·rename_i h3;rw[VN h3];have h:=VK h;obtain⟨a1,a2,_⟩:=vj h;unfold fP;rw[VN h];exact Ad hL a1 a2
   ·rename_i h3;rw[VM h3];have h:=VK h
    have hp:bz L a.key true=0:=by
     unfold cW at h;split at h
     ·assumption
     ·rename_i h3;exact absurd h h3
    obtain⟨a1,a2,_⟩:=vj hp;unfold fW;rw[VN h];exact Ad hL a1 a2
end Go.Sx
namespace Go.Sx
theorem BJ {L:List Obj} {k v:Key} {i:Int} (hL:ar L):ar (dN L k i v):=by
 by_cases h:bB L k i v=0
 ·exact vu (a:=⟨2,i,k,v⟩) hL (by simp[xe,h])
 ·unfold dN;rw[VM h];exact hL
theorem K7 {L:List Obj} {k:Key} (hL:ar L):ar (gd L k):=by
 by_cases h:aO L k 2 true=0
 ·exact vu (a:=⟨3,0,k,k⟩) hL (by simp[xe,h])
 ·unfold gd;rw[VM h];exact hL
theorem Km {L:List Obj} {t f:Key} (hL:ar L):ar (fA L t f):=by
 by_cases h:cg L t f=0
 ·exact vu (a:=⟨4,0,t,f⟩) hL (by simp[xe,h])
 ·unfold fA;rw[VM h];exact hL
theorem KH {L:List Obj} {k:Key} (hL:ar L):ar (fP L k):=by
 by_cases h:bz L k true=0
 ·exact Ed (a:=⟨3,0,0,k,k,⟨#[]⟩⟩) hL (by simp[zo,h])
 ·unfold fP;rw[VM h];exact hL
theorem MS {L:List Obj} {t f:Key} (hL:ar L):ar (fW L t f):=by
 by_cases h:cW L t f=0
 ·exact Ed (a:=⟨4,0,0,t,f,⟨#[]⟩⟩) hL (by simp[zo,h])
 ·unfold fW;rw[VM h];exact hL
theorem ea {c:Prop} [Decidable c] {a b:OX} (ha:ar a.2.2) (hb:ar b.2.2):ar (if c then a else b).2.2:=by split<;>assumption
theorem Sl {L:List Obj} {k:Key} {m:bh} (hL:ar L):ar (iC L k m).2.2:=by
 unfold iC;exact ea hL (ea (BJ hL) (ea (K7 hL) (ea (Km hL) (ea hL hL))))
theorem Tq {L:List Obj} {k:Key} {m:bh} (hL:ar L):ar (gW L k m).2.2:=by
 unfold gW;exact ea hL (ea (D9 hL) (ea (KH hL) (ea (MS hL) hL)))
theorem SY {L:List Obj} {k:Key} {m:bh} (hL:ar L):ar (iI L k m).2.2:=by
 unfold iI;exact ea (D5 hL) (ea (D5 hL) (ea (ND hL) (ea (RG hL) (ea hL (JO hL)))))
theorem SW {L:List Obj} {k:Key} {m:bh} (hL:ar L):ar (ga L k m).2.2:=by
 have hC:ar (if aZ m<0\/11<aZ m then L else dN L (fe k) (aZ m+4) m.k0):=by
  split
  ·exact hL
  ·exact BJ hL
 unfold ga;exact ea hL (ea hC (ea hL (ea hL (ea (Dc hL) (ea hL (PV hL))))))
theorem Qi {L:List Obj} {n:Int} {k:Key} {m:bh} (hL:ar L):ar (ef L n k m).2.2:=by
 unfold ef;exact ea hL (ea (Sl hL) (ea (Tq hL) (ea (SY hL) (ea (SW hL) (ea hL (ea hL hL))))))
theorem Qd {L:List Obj} {n:Int} {k:Key} {m:bh} (hL:ar L):ar (dF L n k m):=by
 unfold dF dt;exact ea hL (ea hL (ea hL (Qi hL)))
theorem Hw {L:List Obj} {n:Int} {k:Key} {m:bh} (hL:ar L):ar (mJ L n k m):=by
 unfold mJ;split
 ·exact Qd hL
 ·exact hL
structure VB where
 key:Key
 msg:bh
 now:Int
theorem E6 {L:List Obj} (h:ar L):jb L:=by have:=jm h;unfold jb;omega
end Go.Sx
