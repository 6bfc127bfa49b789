import Derived.Test.YtlblcfaclmpekaaGreatSM
import Derived.Test.YtlblcfaclmpekaaGreatSRl
set_option linter.unusedSimpArgs false
set_option linter.unusedVariables false
set_option maxRecDepth 100000
namespace Go.Sx
section
variable {L:List Obj} {n:Int} {k:Key} {m:bk} {p:k9}
theorem LW (b:Bytes) (lo hi:Nat):(xz b lo hi).size<=64:=by rw[F3];omega
theorem Az {i x:Int}:(dV L k i x).size<=64:=by
 unfold dV;split
 ·exact LW _ _ _
 ·exact Nat.zero_le _
theorem Rk {i x:Int}:(mH L k i x).size<=64:=by
 unfold mH;split
 ·exact Az
 ·exact Nat.zero_le _
theorem LU:(iz L k m).2.1.data.size<=64:=by unfold iz;(repeat' split)<;>exact Nat.zero_le _
theorem NJ:(gV L k m).2.1.data.size<=64:=by unfold gV;(repeat' split)<;>first|exact Az|exact Nat.zero_le _
theorem MP:(ib L k m).2.1.data.size<=64:=by unfold ib;(repeat' split)<;>exact Nat.zero_le _
theorem My:(fX L k m).2.1.data.size<=64:=by
 unfold fX;by_cases h1:m.code=1
 ·rw[VR h1];exact Nat.zero_le _
 rw[VQ h1];by_cases h2:m.code=2
 ·rw[VR h2];exact Nat.zero_le _
 rw[VQ h2];by_cases h3:m.code=3
 ·rw[VR h3];exact Nat.zero_le _
 rw[VQ h3];by_cases h4:m.code=4
 ·rw[VR h4];exact Nat.zero_le _
 rw[VQ h4];by_cases h5:m.code=5
 ·rw[VR h5];exact Nat.zero_le _
 rw[VQ h5];by_cases h6:m.code=6
 ·rw[VR h6];exact Rk
 rw[VQ h6];exact Nat.zero_le _
theorem QD:(bG L n k m).data.size<=64:=by
 have hB:∀k m,(ej L n k m).2.1.data.size<=64:=fun k m=>by
  unfold ej;split
  ·exact Nat.zero_le _
  split
  ·exact LU
  split
  ·exact NJ
  split
  ·exact MP
  split
  ·exact My
  split
  ·show(if m.code=1 then fR m.k0.kind else if m.code=2 then fR (eY (nF m.k0 m.k1))else fR m.k0.rights).data.size<=64
   split
   ·exact Nat.zero_le _
   ·split<;>exact Nat.zero_le _
  ·split<;>exact Nat.zero_le _
 have hR:∀k m,(dt L n k m).2.1.data.size<=64:=fun k m=>by
  unfold dt;split
  ·exact Nat.zero_le _
  split
  ·exact Nat.zero_le _
  split
  ·exact Nat.zero_le _
  ·exact hB k m
 unfold bG;split
 ·unfold dn;split
  ·exact hR _ _
  ·exact Nat.zero_le _
 ·exact Nat.zero_le _
theorem DY:az (bG L n k m).data:=by have:=QD (L:=L) (n:=n) (k:=k) (m:=m);unfold az;omega
theorem FX (hL:aw L) (h0:¬an (eI L)=0):let N:Int:=(an (eI L):Int);N<=64/\N≠0/\(-64<=p.proc.tmod N/\p.proc.tmod N<=64)/\(0<=(p.proc.tmod N+N).tmod N/\(p.proc.tmod N+N).tmod N<N):=by
 intro N
 have h1:an (eI L)<=L.length:=by
  have:=Bb L (bU (an L));have e:(bU (an L)).toNat=L.length:=by unfold bU an;omega
  rw[e]at this;exact this
 have h2:=iN hL;have hN:0<N:=by show(0:Int)<(an (eI L):Int);omega
 have hN2:N<=64:=by show(an (eI L):Int)<=64;omega
 have a1:=Int.tmod_lt_of_pos p.proc hN;have a2:=Int.lt_tmod_of_pos p.proc hN;refine⟨hN2,by omega,⟨by omega,by omega⟩,Int.tmod_nonneg _ (by omega),Int.tmod_lt_of_pos _ hN⟩
theorem F4 (h:ec p n=true) (hk:p.kind=1):(1<=p.mode/\p.mode<=3)/\(0<=p.reg/\p.reg<12)/\(gh p.s0=true/\gh p.s1=true/\gh p.s2=true):=by
 unfold ec at h;rw[VQ (by omega)]at h
 simp only[VK,VL]at h;obtain⟨⟨⟨⟨⟨⟨⟨a,b⟩,c⟩,d⟩,e⟩,f⟩,g⟩,h⟩:=h;unfold wj at e;simp only[VK,VL]at e;exact⟨⟨b,c⟩,e,f,g,h⟩
end
def gN:k9:=⟨0,0,0,0,0,⟨#[]⟩,0,0,0,false,0⟩
def ai (x:List k9):TL:= .fn (an x) fun i=>Lz (aq x i gN)
def BX (x:List k9):Nat->V:=fun i=>Lz (aq x i gN)
def TG (v:V):Int:=match v with
 | .ag l=>match l with
   | [_,_,_,_,_,s,_,_,_]=>match s with
     | .st b=>cC b
     |_=>0
   |_=>0
 |_=>0
def Vi:Arg TL:=TY 11 some id
theorem Qu:lY Vi:=Qe fun l x h=>by simpa using h
def AE (n:Nat) (F:Nat->V):Nat->Bool
 |0=>false
 |j+1=>AE n F j||(decide (j<n)&&decide (100<TG (F j)))
def iS (l:TL):Bool:=match l with
 | .fn n F=>decide (40<bU n)||AE n F n
 |_=>false
def pA (x:List k9):Prop:=∀i,i<an x->az (aq x i gN).data
def nG (l:TL):Prop:=∃x:List k9,l=ai x/\pA x
def SA:Ct:=Ci (bI Vi kK) (fun x=>some (nG x.1)) fun x=> .bo (iS x.1)
def uS (x:List k9) (g:Int):Prop:=0<=g/\g<=(an x:Int)/\AE (an x) (fun i=>Lz (aq x i gN)) g.toNat=false
theorem BV {n:Nat} {F:Nat->V} {j:Nat} (hj:j<n) (h:100<TG (F j)):∀k,j<k->AE n F k=true
 |0,hk=>by omega
 |k+1,hk=>by
  unfold AE;by_cases e:j=k
  ·subst e;simp[hj,h]
  ·rw[BV hj h k (by omega)];rfl
theorem FC {n:Nat} {F:Nat->V} {j:Nat} (h0:AE n F j=false) (h:¬100<TG (F j)):AE n F (j+1)=false:=by
 unfold AE;simp[h0,h]
def Sk:Obj:=Obj.mk 1 1 free.calls ((((((free.slots.put 2 (Key.mk 1 void.oid void.count void.call void.rights 1)).put 4 (Key.mk 4 1 1 void.call void.rights void.value)).put 5 (Key.mk 8 void.oid void.count void.call void.rights void.value)).put 6 (Key.mk 9 void.oid void.count void.call void.rights void.value)).put 7 (Key.mk 10 void.oid void.count void.call void.rights void.value)).put 8 (Key.mk 5 0 1 void.call void.rights void.value)) free.bytes
def SU (x:Int):Obj:=Obj.mk 1 1 free.calls ((free.slots.put 0 (Key.mk 1 void.oid void.count void.call void.rights 2)).put 1 (Key.mk 1 void.oid void.count void.call void.rights x)) free.bytes
def ab (n:Int):List Obj:=bP (bP (jG n) 0 Sk) 1 (SU (n-1))
end Go.Sx
