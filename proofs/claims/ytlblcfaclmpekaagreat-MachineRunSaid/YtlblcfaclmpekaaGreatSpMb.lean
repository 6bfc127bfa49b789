import Derived.Test.YtlblcfaclmpekaaGreatSM
import Derived.Test.YtlblcfaclmpekaaGreatSRl
set_option linter.unusedSimpArgs false
set_option linter.unusedVariables false
set_option maxRecDepth 100000
namespace Go.Sx
section
variable {L:List Obj} {n:Int} {k:Key} {m:bh} {p:k7}
theorem Mt (b:Bytes) (lo hi:Nat):(xw b lo hi).size<=64:=by rw[Gu];omega
theorem BA {i x:Int}:(dV L k i x).size<=64:=by
 unfold dV;split
 ·exact Mt _ _ _
 ·exact Nat.zero_le _
theorem Re {i x:Int}:(mI L k i x).size<=64:=by
 unfold mI;split
 ·exact BA
 ·exact Nat.zero_le _
theorem Nx:(iC L k m).2.1.data.size<=64:=by unfold iC;(repeat' split)<;>exact Nat.zero_le _
theorem Oa:(gW L k m).2.1.data.size<=64:=by unfold gW;(repeat' split)<;>first|exact BA|exact Nat.zero_le _
theorem LY:(iI L k m).2.1.data.size<=64:=by unfold iI;(repeat' split)<;>exact Nat.zero_le _
theorem Mx:(ga L k m).2.1.data.size<=64:=by
 unfold ga;by_cases h1:m.code=1
 ·rw[VN h1];exact Nat.zero_le _
 rw[VM h1];by_cases h2:m.code=2
 ·rw[VN h2];exact Nat.zero_le _
 rw[VM h2];by_cases h3:m.code=3
 ·rw[VN h3];exact Nat.zero_le _
 rw[VM h3];by_cases h4:m.code=4
 ·rw[VN h4];exact Nat.zero_le _
 rw[VM h4];by_cases h5:m.code=5
 ·rw[VN h5];exact Nat.zero_le _
 rw[VM h5];by_cases h6:m.code=6
 ·rw[VN h6];exact Re
 rw[VM h6];exact Nat.zero_le _
theorem Qr:(bE L n k m).data.size<=64:=by
 have hB:∀k m,(ef L n k m).2.1.data.size<=64:=fun k m=>by
  unfold ef;split
  ·exact Nat.zero_le _
  split
  ·exact Nx
  split
  ·exact Oa
  split
  ·exact LY
  split
  ·exact Mx
  split
  ·show(if m.code=1 then fT m.k0.kind else if m.code=2 then fT (fc (ow m.k0 m.k1))else fT m.k0.rights).data.size<=64
   split
   ·exact Nat.zero_le _
   ·split<;>exact Nat.zero_le _
  ·split<;>exact Nat.zero_le _
 have hR:∀k m,(dt L n k m).2.1.data.size<=64:=fun k m=>by
  unfold dt;split
  ·exact Nat.zero_le _
  split
  ·exact Nat.zero_le _
  split
  ·exact Nat.zero_le _
  ·exact hB k m
 unfold bE;split
 ·unfold dg;split
  ·exact hR _ _
  ·exact Nat.zero_le _
 ·exact Nat.zero_le _
theorem DW:aw (bE L n k m).data:=by have:=Qr (L:=L) (n:=n) (k:=k) (m:=m);unfold aw;omega
theorem Fg (hL:ar L) (h0:¬aq (eJ L)=0):let N:Int:=(aq (eJ L):Int);N<=64/\N≠0/\(-64<=p.proc.tmod N/\p.proc.tmod N<=64)/\(0<=(p.proc.tmod N+N).tmod N/\(p.proc.tmod N+N).tmod N<N):=by
 intro N
 have h1:aq (eJ L)<=L.length:=by
  have:=Bp L (b6 (aq L));have e:(b6 (aq L)).toNat=L.length:=by unfold b6 aq;omega
  rw[e]at this;exact this
 have h2:=jm hL;have hN:0<N:=by show(0:Int)<(aq (eJ L):Int);omega
 have hN2:N<=64:=by show(aq (eJ L):Int)<=64;omega
 have a1:=Int.tmod_lt_of_pos p.proc hN;have a2:=Int.lt_tmod_of_pos p.proc hN;refine⟨hN2,by omega,⟨by omega,by omega⟩,Int.tmod_nonneg _ (by omega),Int.tmod_lt_of_pos _ hN⟩
theorem GD (h:dO p n=true) (hk:p.kind=1):(1<=p.mode/\p.mode<=3)/\(0<=p.reg/\p.reg<12)/\(gu p.s0=true/\gu p.s1=true/\gu p.s2=true):=by
 unfold dO at h;rw[VM (by omega)]at h
 simp only[VG,VH]at h;obtain⟨⟨⟨⟨⟨⟨⟨a,b⟩,c⟩,d⟩,e⟩,f⟩,g⟩,h⟩:=h;unfold wv at e;simp only[VG,VH]at e;exact⟨⟨b,c⟩,e,f,g,h⟩
end
def cR:k7:=⟨0,0,0,0,0,⟨#[]⟩,0,0,0,false,0⟩
def az (x:List k7):TL:= .fn (aq x) fun i=>Lu (ak x i cR)
def sB (x:List k7):Nat->V:=fun i=>Lu (ak x i cR)
def T3 (v:V):Int:=match v with
 | .ag l=>match l with
   | [_,_,_,_,_,s,_,_,_]=>match s with
     | .st b=>cC b
     |_=>0
   |_=>0
 |_=>0
def Vd:Arg TL:=TR 11 some id
theorem QQ:mn Vd:=Q5 fun l x h=>by simpa using h
def Ca (n:Nat) (F:Nat->V):Nat->Bool
 |0=>false
 |j+1=>Ca n F j||(decide (j<n)&&decide (100<T3 (F j)))
def kX (l:TL):Bool:=match l with
 | .fn n F=>decide (40<b6 n)||Ca n F n
 |_=>false
def tV (x:List k7):Prop:=∀i,i<aq x->aw (ak x i cR).data
def vD (l:TL):Prop:=∃x:List k7,l=az x/\tV x
def S0:Ct:=Cj (bG Vd kD) (fun x=>some (vD x.1)) fun x=> .bo (kX x.1)
def uZ (x:List k7) (g:Int):Prop:=0<=g/\g<=(aq x:Int)/\Ca (aq x) (fun i=>Lu (ak x i cR)) g.toNat=false
theorem Qj {x:List k7} (h:kX (az x)=false):¬40<b6 (aq x):=by
 unfold kX az at h;simp only[Bool.or_eq_false_iff,decide_eq_false_iff_not]at h;exact h.1
theorem BK {n:Nat} {F:Nat->V} {j:Nat} (hj:j<n) (h:100<T3 (F j)):∀k,j<k->Ca n F k=true
 |0,hk=>by omega
 |k+1,hk=>by
  unfold Ca;by_cases e:j=k
  ·subst e;simp[hj,h]
  ·rw[BK hj h k (by omega)];rfl
theorem Gq {n:Nat} {F:Nat->V} {j:Nat} (h0:Ca n F j=false) (h:¬100<T3 (F j)):Ca n F (j+1)=false:=by
 unfold Ca;simp[h0,h]
def Se:Obj:=Obj.mk 1 1 free.calls ((((((free.slots.put 2 (Key.mk 1 void.oid void.count void.call void.rights 1)).put 4 (Key.mk 4 1 1 void.call void.rights void.value)).put 5 (Key.mk 8 void.oid void.count void.call void.rights void.value)).put 6 (Key.mk 9 void.oid void.count void.call void.rights void.value)).put 7 (Key.mk 10 void.oid void.count void.call void.rights void.value)).put 8 (Key.mk 5 0 1 void.call void.rights void.value)) free.bytes
def Sc (x:Int):Obj:=Obj.mk 1 1 free.calls ((free.slots.put 0 (Key.mk 1 void.oid void.count void.call void.rights 2)).put 1 (Key.mk 1 void.oid void.count void.call void.rights x)) free.bytes
def ai (n:Int):List Obj:=bO (bO (jv n) 0 Se) 1 (Sc (n-1))
end Go.Sx
