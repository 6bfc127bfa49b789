import Derived.Test.YtlblcfaclmpekaaGreatSM
import Derived.Test.YtlblcfaclmpekaaGreatSRl
set_option linter.unusedSimpArgs false
set_option linter.unusedVariables false
set_option maxRecDepth 100000
namespace Go.Sx
section
variable {L:List Obj} {n:Int} {k:Key} {m:bd} {p:kh}
theorem NU (b:Bytes) (lo hi:Nat):(xd b lo hi).size<=64:=by rw[Fi];omega
theorem Bj {i x:Int}:(dN L k i x).size<=64:=by
 unfold dN;split
 ·exact NU _ _ _
 ·exact Nat.zero_le _
theorem PB {i x:Int}:(me L k i x).size<=64:=by
 unfold me;split
 ·exact Bj
 ·exact Nat.zero_le _
theorem M6:(iq L k m).2.1.data.size<=64:=by unfold iq;(repeat' split)<;>exact Nat.zero_le _
theorem Mz:(gO L k m).2.1.data.size<=64:=by unfold gO;(repeat' split)<;>first|exact Bj|exact Nat.zero_le _
theorem Lt:(g8 L k m).2.1.data.size<=64:=by unfold g8;(repeat' split)<;>exact Nat.zero_le _
theorem Mq:(fQ L k m).2.1.data.size<=64:=by
 unfold fQ;by_cases h1:m.code=1
 ·rw[U0 h1];exact Nat.zero_le _
 rw[UZ h1];by_cases h2:m.code=2
 ·rw[U0 h2];exact Nat.zero_le _
 rw[UZ h2];by_cases h3:m.code=3
 ·rw[U0 h3];exact Nat.zero_le _
 rw[UZ h3];by_cases h4:m.code=4
 ·rw[U0 h4];exact Nat.zero_le _
 rw[UZ h4];by_cases h5:m.code=5
 ·rw[U0 h5];exact Nat.zero_le _
 rw[UZ h5];by_cases h6:m.code=6
 ·rw[U0 h6];exact PB
 rw[UZ h6];exact Nat.zero_le _
theorem Pn:(bw L n k m).data.size<=64:=by
 have hB:∀k m,(dW L n k m).2.1.data.size<=64:=fun k m=>by
  unfold dW;split
  ·exact Nat.zero_le _
  split
  ·exact M6
  split
  ·exact Mz
  split
  ·exact Lt
  split
  ·exact Mq
  split
  ·show(if m.code=1 then fL m.k0.kind else if m.code=2 then fL (eP (nM m.k0 m.k1))else fL m.k0.rights).data.size<=64
   split
   ·exact Nat.zero_le _
   ·split<;>exact Nat.zero_le _
  ·split<;>exact Nat.zero_le _
 have hR:∀k m,(cY L n k m).2.1.data.size<=64:=fun k m=>by
  unfold cY;split
  ·exact Nat.zero_le _
  split
  ·exact Nat.zero_le _
  split
  ·exact Nat.zero_le _
  ·exact hB k m
 unfold bw;split
 ·unfold cU;split
  ·exact hR _ _
  ·exact Nat.zero_le _
 ·exact Nat.zero_le _
theorem DG:au (bw L n k m).data:=by have:=Pn (L:=L) (n:=n) (k:=k) (m:=m);unfold au;omega
theorem FZ (hL:an L) (h0:¬ar (ev L)=0):let N:Int:=(ar (ev L):Int);N<=64/\N≠0/\(-64<=p.proc.tmod N/\p.proc.tmod N<=64)/\(0<=(p.proc.tmod N+N).tmod N/\(p.proc.tmod N+N).tmod N<N):=by
 intro N
 have h1:ar (ev L)<=L.length:=by
  have:=BI L (dJ (ar L));have e:(dJ (ar L)).toNat=L.length:=by unfold dJ ar;omega
  rw[e]at this;exact this
 have h2:=jy hL;have hN:0<N:=by show(0:Int)<(ar (ev L):Int);omega
 have hN2:N<=64:=by show(ar (ev L):Int)<=64;omega
 have a1:=Int.tmod_lt_of_pos p.proc hN;have a2:=Int.lt_tmod_of_pos p.proc hN;refine⟨hN2,by omega,⟨by omega,by omega⟩,Int.tmod_nonneg _ (by omega),Int.tmod_lt_of_pos _ hN⟩
theorem FA (h:dU p n=true) (hk:p.kind=1):(1<=p.mode/\p.mode<=3)/\(0<=p.reg/\p.reg<12)/\(fV p.s0=true/\fV p.s1=true/\fV p.s2=true):=by
 unfold dU at h;rw[UZ (by omega)]at h
 simp only[US,UT]at h;obtain⟨⟨⟨⟨⟨⟨⟨a,b⟩,c⟩,d⟩,e⟩,f⟩,g⟩,h⟩:=h;unfold vD at e;simp only[US,UT]at e;exact⟨⟨b,c⟩,e,f,g,h⟩
end
def dB:kh:=⟨0,0,0,0,0,⟨#[]⟩,0,0,0,false,0⟩
def nO (x:List kh):TL:= .fn (ar x) fun i=>KY (ai x i dB)
def qc (x:List kh):Nat->V:=fun i=>KY (ai x i dB)
def SS (v:V):Int:=match v with
 | .ag l=>match l with
   | [_,_,_,_,_,s,_,_,_]=>match s with
     | .st b=>ca b
     |_=>0
   |_=>0
 |_=>0
def Uk:Arg TL:=Te 11 some id
theorem Po:lB Uk:=Qw fun l x h=>by simpa using h
def AH (n:Nat) (F:Nat->V):Nat->Bool
 |0=>false
 |j+1=>AH n F j||(decide (j<n)&&decide (100<SS (F j)))
def ou (l:TL):Bool:=match l with
 | .fn n F=>decide (40<dJ n)||AH n F n
 |_=>false
def zG (x:List kh):Prop:=∀i,i<ar x->au (ai x i dB).data
def Ce (l:TL):Prop:=∃x:List kh,l=nO x/\zG x
def Sw:Ct:=BW (bD Uk kc) (fun x=>some (Ce x.1)) fun x=> .bo (ou x.1)
def uO (x:List kh) (g:Int):Prop:=0<=g/\g<=(ar x:Int)/\AH (ar x) (fun i=>KY (ai x i dB)) g.toNat=false
theorem QK {x:List kh} (h:ou (nO x)=false):¬40<dJ (ar x):=by
 unfold ou nO at h;simp only[Bool.or_eq_false_iff,decide_eq_false_iff_not]at h;exact h.1
theorem Bd {n:Nat} {F:Nat->V} {j:Nat} (hj:j<n) (h:100<SS (F j)):∀k,j<k->AH n F k=true
 |0,hk=>by omega
 |k+1,hk=>by
  unfold AH;by_cases e:j=k
  ·subst e;simp[hj,h]
  ·rw[Bd hj h k (by omega)];rfl
theorem F6 {n:Nat} {F:Nat->V} {j:Nat} (h0:AH n F j=false) (h:¬100<SS (F j)):AH n F (j+1)=false:=by
 unfold AH;simp[h0,h]
def R7:Obj:=Obj.mk 1 1 free.calls ((((((free.slots.put 2 (Key.mk 1 void.oid void.count void.call void.rights 1)).put 4 (Key.mk 4 1 1 void.call void.rights void.value)).put 5 (Key.mk 8 void.oid void.count void.call void.rights void.value)).put 6 (Key.mk 9 void.oid void.count void.call void.rights void.value)).put 7 (Key.mk 10 void.oid void.count void.call void.rights void.value)).put 8 (Key.mk 5 0 1 void.call void.rights void.value)) free.bytes
def Ss (x:Int):Obj:=Obj.mk 1 1 free.calls ((free.slots.put 0 (Key.mk 1 void.oid void.count void.call void.rights 2)).put 1 (Key.mk 1 void.oid void.count void.call void.rights x)) free.bytes
def ew (n:Int):List Obj:=bO (bO (lX n) 0 R7) 1 (Ss (n-1))
def iz (x:List kh) (g:Int×Int×List Obj):Prop:=0<=g.1/\g.1<=(ar x:Int)/\jf g.2.1/\an g.2.2
def mK (x:List kh) (g:Int×Int×List Obj):Nat:=ar x-g.1.toNat
end Go.Sx
