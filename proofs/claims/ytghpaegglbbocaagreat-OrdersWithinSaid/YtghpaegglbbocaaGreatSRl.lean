import Derived.Test.YtghpaegglbbocaaGreatSpB
import Derived.Test.YtghpaegglbbocaaGreatKS
import Derived.Test.YtghpaegglbbocaaGreatSW
import Derived.Test.YtghpaegglbbocaaGreatSpP
import Derived.Test.YtghpaegglbbocaaGreatSpRd
set_option linter.unusedSimpArgs false
set_option linter.unusedVariables false
namespace Go.Sx
end Go.Sx
namespace Go.Sx
theorem HU {L:List Obj} {k:Key} {n:Int} (h:bN L k n=0):aS L k=0/\0<=dQ L k:=by
 have he:aS L k=0:=Decidable.byContradiction fun he=>by
  rw[zW he]at h;exact he h
 refine⟨he,?_⟩;unfold bN at h;split at h
 ·split at h
  ·omega
  ·rename_i h';omega
 ·rename_i h';exact absurd h h'
theorem GA {L:List Obj} {k:Key} (hL:an L):an (iu L k):=by
 unfold iu;split
 ·exact Da hL fun o ho=>ub ho
 ·exact hL
theorem LZ {L:List Obj} {k v:Key} (hL:an L):an (gA L k v):=by
 unfold gA;split
 ·by_cases h:v.oid.toNat<L.length
  ·exact lr hL (ub (dt hL _ h))
  ·have:cX L v.oid.toNat (vk (aq L v.oid.toNat free))=L:=by unfold cX;exact List.set_eq_of_length_le (by omega)
   rw[this];exact hL
 ·exact hL
theorem Pp {L:List Obj} {k:Key} {n:Int} (hL:an L):an (bc L k n):=by
 by_cases h:bN L k n=0
 ·exact(IA hL (HU h).1 h).1
 ·unfold bc;rw[Tn h];exact hL
end Go.Sx
namespace Go.Sx
theorem yz {L:List Obj} {k:Key} {b:Bytes} (hL:an L) (h:aM L k=true) (h2:k.kind=3):an (pW L k b):=(oH hL h h2).2.2
theorem CC {L:List Obj} {a:QY} (hL:an L) (h:yu L a=true):an (Jb L a):=by
 unfold yu at h;unfold Jb;split at h
 ·simp at h
 ·rename_i h1;rw[Tn h1];split at h
  ·rename_i h2;rw[To h2];have h:=Tl h
   have hp:bq L a.key true=0:=by
    unfold cJ at h;split at h
    ·assumption
    ·rename_i h3;exact absurd h h3
   obtain⟨a1,a2,_⟩:=uC hp;unfold ew;rw[To h];exact yz hL a1 a2
  ·rename_i h2;rw[Tn h2];split at h
   ·rename_i h3;rw[To h3];have h:=Tl h;obtain⟨a1,a2,_⟩:=uC h;unfold eL;rw[To h];exact yz hL a1 a2
   ·rename_i h3;rw[Tn h3];have h:=Tl h
    have hp:bq L a.key true=0:=by
     unfold cL at h;split at h
     ·assumption
     ·rename_i h3;exact absurd h h3
    obtain⟨a1,a2,_⟩:=uC hp;unfold e9;rw[To h];exact yz hL a1 a2
end Go.Sx
namespace Go.Sx
theorem AG {L:List Obj} {k v:Key} {i:Int} (hL:an L):an (cG L k i v):=by
 by_cases h:bk L k i v=0
 ·exact vq (a:=⟨2,i,k,v⟩) hL (by simp[vI,h])
 ·unfold cG;rw[Tn h];exact hL
theorem Hk {L:List Obj} {k:Key} (hL:an L):an (fe L k):=by
 by_cases h:aJ L k 2 true=0
 ·exact vq (a:=⟨3,0,k,k⟩) hL (by simp[vI,h])
 ·unfold fe;rw[Tn h];exact hL
theorem ID {L:List Obj} {t f:Key} (hL:an L):an (eA L t f):=by
 by_cases h:bZ L t f=0
 ·exact vq (a:=⟨4,0,t,f⟩) hL (by simp[vI,h])
 ·unfold eA;rw[Tn h];exact hL
theorem Fp {L:List Obj} {k:Key} (hL:an L):an (eL L k):=by
 by_cases h:bq L k true=0
 ·exact CC (a:=⟨3,0,0,k,k,⟨#[]⟩⟩) hL (by simp[yu,h])
 ·unfold eL;rw[Tn h];exact hL
theorem Ki {L:List Obj} {t f:Key} (hL:an L):an (e9 L t f):=by
 by_cases h:cL L t f=0
 ·exact CC (a:=⟨4,0,0,t,f,⟨#[]⟩⟩) hL (by simp[yu,h])
 ·unfold e9;rw[Tn h];exact hL
theorem dP {c:Prop} [Decidable c] {a b:FH} (ha:an a.2.2) (hb:an b.2.2):an (if c then a else b).2.2:=by split<;>assumption
theorem QA {L:List Obj} {k:Key} {m:aZ} (hL:an L):an (gC L k m).2.2:=by
 unfold gC;exact dP hL (dP (AG hL) (dP (Hk hL) (dP (ID hL) (dP hL hL))))
theorem Rc {L:List Obj} {k:Key} {m:aZ} (hL:an L):an (gd L k m).2.2:=by
 unfold gd;exact dP hL (dP (CX hL) (dP (Fp hL) (dP (Ki hL) hL)))
theorem Qi {L:List Obj} {k:Key} {m:aZ} (hL:an L):an (gJ L k m).2.2:=by
 unfold gJ;exact dP (CH hL) (dP (CH hL) (dP (LZ hL) (dP (Pp hL) (dP hL (GA hL)))))
theorem Rp {L:List Obj} {k:Key} {m:aZ} (hL:an L):an (fB L k m).2.2:=by
 have hC:an (if aP m<0\/11<aP m then L else cG L (er k) (aP m+4) m.k0):=by
  split
  ·exact hL
  ·exact AG hL
 unfold fB;exact dP hL (dP hC (dP hL (dP hL (dP (Pn hL) (dP hL (NY hL))))))
theorem OC {L:List Obj} {n:Int} {k:Key} {m:aZ} (hL:an L):an (dR L n k m).2.2:=by
 unfold dR;exact dP hL (dP (QA hL) (dP (Rc hL) (dP (Qi hL) (dP (Rp hL) (dP hL (dP hL hL))))))
theorem NP {L:List Obj} {n:Int} {k:Key} {m:aZ} (hL:an L):an (dg L n k m):=by
 unfold dg cr;exact dP hL (dP hL (dP hL (OC hL)))
theorem OY {L:List Obj} {n:Int} {k:Key} {m:aZ} (hL:an L):an (jl L n k m):=by
 unfold jl;split
 ·exact NP hL
 ·exact hL
structure Av where
 key:Key
 msg:aZ
 now:Int
def LN (a:Av):V:= .ag [.key a.key,.ag [.it .i64 a.msg.code,.st a.msg.data,.ag [.key a.msg.k0,.key a.msg.k1,.key a.msg.k2]],.it .i64 a.now]
def SL:Av:=⟨void,ey,0⟩
def Dd (n:Nat) (g:Int):Prop:=0<=g/\g<=(n:Int)
end Go.Sx
