import Derived.Test.YtlblcfaclmpekaaGreatSpMc
import Derived.Test.YtlblcfaclmpekaaGreatSpQn
set_option linter.unusedSimpArgs false
set_option linter.unusedVariables false
set_option maxRecDepth 100000
namespace Go.Sx
def UI (o o':Obj):Prop:=(o'.kind=o.kind/\o'.count=o.count/\o.calls<=o'.calls)\/(o.kind=0/\o'.kind=3/\o'.count=o.count)\/(o.kind=0/\(o'.kind=1\/o'.kind=2)/\o'.count=o.count+1)\/((o.kind=1\/o.kind=2)/\o'.kind=0/\o'.count=o.count)
def AF (L M:List Obj):Prop:=M.length=L.length/\∀j,j<L.length->UI (ai L j free) (ai M j free)
theorem gg (L:List Obj):AF L L:=⟨rfl,fun j _=> .inl ⟨rfl,rfl,Int.le_refl _⟩⟩
theorem na {L M:List Obj} (h:mG L M):AF L M:=⟨h.1,fun j hj=> .inl (h.2 j hj)⟩
theorem Ad {L M:List Obj} (h:Cf L M):AF L M:=⟨h.1,fun j hj=>by
 have:=h.2 j hj;unfold Dm at this;unfold UI;rcases this with⟨a,b,c⟩|h|h|h
 ·exact .inl ⟨a,b,by omega⟩
 ·exact .inr (.inl h)
 ·exact .inr (.inr (.inl h))
 ·exact .inr (.inr (.inr h))⟩
theorem Qx {L M N:List Obj} (h:AF L M) (h':mG M N):AF L N:=⟨h'.1.trans h.1,fun j hj=>by
 have h1:=h.2 j hj;obtain⟨a,b,c⟩:=h'.2 j (by rw[h.1];exact hj)
 unfold UI at h1⊢;rw[a,b];rcases h1 with⟨d,e,f⟩|h|h|h
 ·exact .inl ⟨d,e,by omega⟩
 ·exact .inr (.inl h)
 ·exact .inr (.inr (.inl h))
 ·exact .inr (.inr (.inr h))⟩
theorem Li {L:List Obj} {i:Nat} {o:Obj} (h:¬i<L.length):bX L i o=L:=by
 unfold bX;exact List.set_eq_of_length_le (by omega)
theorem s4 {L:List Obj} {i:Nat} {o:Obj} (h1:o.kind=(ai L i free).kind) (h2:o.count=(ai L i free).count) (h3:(ai L i free).calls<=o.calls):mG L (bX L i o):=by
 by_cases h:i<L.length
 ·exact ti h h1 h2 h3
 ·rw[Li h];exact gy L
theorem vZ {L:List Obj} {k:Key} {s:bJ}:mG L (ru L k s):=s4 rfl rfl (Int.le_refl _)
theorem xf {L:List Obj} {k:Key} {s:Bytes}:mG L (pL L k s):=s4 rfl rfl (Int.le_refl _)
section
variable {L:List Obj} {k v:Key} {i n:Int} {m:bh} {s:ByteArray}
theorem BP:mG L (dg L k i v):=by unfold dg;split;exact vZ;exact gy L
theorem KV:mG L (fF L k):=by unfold fF;split;exact vZ;exact gy L
theorem HO:mG L (eY L k v):=by unfold eY;split;exact vZ;exact gy L
theorem E5:mG L (eR L k i s):=by unfold eR;split;exact xf;exact gy L
theorem Jc:mG L (fg L k):=by unfold fg;split;exact xf;exact gy L
theorem Ok:mG L (fz L k v):=by unfold fz;split;exact xf;exact gy L
theorem Sq:mG L (mi L k i s):=by unfold mi;split;exact E5;exact gy L
theorem LZ:mG L (gZ L i n):=by
 unfold gZ;split
 ·rename_i h
  have hk:(au L i).kind=1:=by
   unfold ey at h;split at h
   ·omega
   ·split at h
    ·omega
    ·rename_i h2;exact Classical.not_not.1 h2
  have hg:au L i=ai L i.toNat free:=by
   unfold au at hk⊢;split at hk
   ·rename_i h0;rw[Xv h0]
   ·simp[free]at hk
  rw[hg];exact s4 za.1 za.2.1 (by rw[za.2.2];exact Int.le_refl _)
 ·exact gy L
theorem Sm:mG L (jF L i m):=by
 unfold jF;split
 ·exact s4 yZ.1 yZ.2.1 (by rw[yZ.2.2];exact Int.le_refl _)
 ·exact gy L
theorem TV:AF L (hS L k m).2.2:=by unfold hS;(repeat' split)<;>first|exact gg L|exact na BP|exact na KV|exact na HO
theorem Tv:AF L (gM L k m).2.2:=by unfold gM;(repeat' split)<;>first|exact gg L|exact na E5|exact na Jc|exact na Ok
theorem Uf:AF L (hJ L k m).2.2:=by unfold hJ;(repeat' split)<;>first|exact gg L|exact Ad IY|exact Ad LG|exact Ad PH|exact Ad IV
theorem TI:AF L (fS L k m).2.2:=by
 unfold fS;by_cases h1:m.code=1
 ·rw[Xv h1];exact gg L
 rw[Xu h1];by_cases h2:m.code=2
 ·rw[Xv h2];show AF L (if aX m<0\/11<aX m then L else dg L (eZ k) (aX m+4) m.k0)
  split
  ·exact gg L
  ·exact na BP
 rw[Xu h2];by_cases h3:m.code=3
 ·rw[Xv h3];exact gg L
 rw[Xu h3];by_cases h4:m.code=4
 ·rw[Xv h4];exact gg L
 rw[Xu h4];by_cases h5:m.code=5
 ·rw[Xv h5];exact na LZ
 rw[Xu h5];by_cases h6:m.code=6
 ·rw[Xv h6];exact gg L
 rw[Xu h6];exact na Sq
theorem TK:AF L (lb L n k m):=by
 have hB:∀k m,AF L (dU L n k m).2.2:=fun k m=>by
  unfold dU;split
  ·exact gg L
  split
  ·exact TV
  split
  ·exact Tv
  split
  ·exact Uf
  split
  ·exact TI
  split
  ·exact gg L
  ·split<;>exact gg L
 have hR:∀k m,AF L (cZ L n k m).2.2:=fun k m=>by
  unfold cZ;split
  ·exact gg L
  split
  ·exact gg L
  split
  ·exact gg L
  ·exact hB k m
 unfold lb;split
 ·exact hR _ _
 ·exact gg L
end
theorem Fq {L:List Obj} {n:Int} {p:ke} (hL:aq L):AF L (er L n p):=by
 unfold er;split
 ·split
  ·exact na (QN hL)
  ·unfold Bc;have h1:AF L (gT L n p):=TK;split
   ·split
    ·exact Qx h1 Sm
    ·split
     ·exact Qx h1 LZ
     ·exact h1
   ·exact h1
 ·exact gg L
def pX (L:List Obj) (k:Key):Prop:=k.count<(ai L k.oid.toNat free).count\/(k.count=(ai L k.oid.toNat free).count/\((ai L k.oid.toNat free).kind=0\/(ai L k.oid.toNat free).kind=3\/(k.kind=7/\k.call<(ai L k.oid.toNat free).calls)))
theorem E1 {L:List Obj} {k:Key} (h:aI L k=true) (h7:k.kind=7):(ai L k.oid.toNat free).calls=k.call:=by
 have h':=h;unfold aI at h';simp only[Xo]at h'
 have hn:¬bF k<0:=by
  rcases iM k with⟨_,e,h'⟩|⟨e,_⟩
  ·omega
  ·rw[e]at h';simp at h'
 exact Py h'.2 hn h7
theorem GP {L:List Obj} {k:Key} (h:pX L k):aI L k=false:=by
 cases hi:aI L k with
 |false=>rfl
 |true=>
  obtain⟨_,h1,h2⟩:=HP hi;unfold pX at h;rcases h with h|⟨_,h|h|⟨h7,h⟩⟩
  ·omega
  ·omega
  ·omega
  ·have:=E1 hi h7;omega
theorem Jo {L M:List Obj} {k:Key} (hs:AF L M) (h:pX L k):pX M k:=by
 by_cases hk:k.oid.toNat<L.length
 ·have:=hs.2 _ hk;unfold pX at h⊢;unfold UI at this;rcases this with⟨a,b,c⟩|⟨a,b,c⟩|⟨a,b,c⟩|⟨a,b,c⟩<;>rcases h with h|⟨h,h'|h'|⟨h7,h'⟩⟩<;>omega
 ·have e:∀M:List Obj,M.length=L.length->ai M k.oid.toNat free=free:=fun M hM=>by
   unfold ai;rw[Xt,List.getElem?_eq_none (by omega)];rfl
  unfold pX at h⊢;rw[e M hs.1];rw[e L rfl]at h;exact h
theorem Ir {L M:List Obj} {k:Key} (hs:AF L M) (h:aI L k=true) (h':aI M k=false):pX M k:=by
 obtain⟨h1,h2,h3⟩:=HP h;rcases hs.2 _ h1 with⟨a,b,c⟩|⟨a,b,c⟩|⟨a,b,c⟩|⟨a,b,c⟩
 ·by_cases h7:k.kind=7
  ·have hc:=E1 h h7;by_cases e:(ai M k.oid.toNat free).calls=(ai L k.oid.toNat free).calls
   ·exfalso
    have:aI M k=aI L k:=by
     unfold aI cj bL ak;rw[hs.1,a,b,e]
    rw[this,h]at h';simp at h'
   ·exact .inr ⟨by omega,.inr (.inr ⟨h7,by omega⟩)⟩
  ·exfalso
   have:aI M k=aI L k:=by
    unfold aI cj bL ak;rw[hs.1,a,b];simp[h7]
   rw[this,h]at h';simp at h'
 ·omega
 ·omega
 ·exact .inr ⟨by omega,.inl b⟩
theorem MG {a b:Obj} {n n':Int} (ha:bf a n=true) (hb:bf b n'=true) (hk:a.kind=b.kind) (hc:a.count=b.count) (h3:a.kind=3):a=b:=by
 have key:∀{o:Obj} {n:Int},bf o n=true->o.kind=3->o.calls=0/\o.slots=fD/\o.bytes=dV:=fun{o n} ho hk=>by
  obtain⟨_,_,_,_,_,_,_,_,h1,h2,h3⟩:=cO.1 ho;refine⟨by omega,?_,?_⟩
  ·apply Vector.ext
   intro i hi;have:=h2 i hi;unfold gk at this;simp only[Xo,Bool.or_eq_true,Xp]at this
   have hv:o.slots.at i=void:=by
    rcases this.2 with h|h
    ·omega
    ·simpa[BC]using h
   have e1:o.slots.at i=o.slots[i]:=by unfold bJ.at;simp[hi]
   rw[<-e1,hv];simp[fD]
  ·apply Vector.ext
   intro i hi;have:=h3 i hi;have hv:o.bytes.at i=0:=by rcases this with h|h;omega;exact h
   have e1:o.bytes.at i=o.bytes[i]:=by unfold Bytes.at;simp[hi]
   rw[<-e1,hv];simp[dV]
 obtain⟨a1,a2,a3⟩:=key ha h3;obtain⟨b1,b2,b3⟩:=key hb (by omega)
 cases a;cases b;simp_all
end Go.Sx
