import Derived.Test.YtlblcfaclmpekaaGreatSM
import Derived.Test.YtlblcfaclmpekaaGreatSRl
set_option linter.unusedSimpArgs false
set_option linter.unusedVariables false
set_option maxRecDepth 100000
namespace Go.Sx
section
variable {L:List Obj} {n:Int} {k:Key} {m:bh} {p:ke}
theorem OP (b:Bytes) (lo hi:Nat):(xQ b lo hi).size<=64:=by rw[GM];omega
theorem Cm {i x:Int}:(dW L k i x).size<=64:=by
 unfold dW;split
 ·exact OP _ _ _
 ·exact Nat.zero_le _
theorem Re {i x:Int}:(mH L k i x).size<=64:=by
 unfold mH;split
 ·exact Cm
 ·exact Nat.zero_le _
theorem Nc:(hS L k m).2.1.data.size<=64:=by unfold hS;(repeat' split)<;>exact Nat.zero_le _
theorem O5:(gM L k m).2.1.data.size<=64:=by unfold gM;(repeat' split)<;>first|exact Cm|exact Nat.zero_le _
theorem NW:(hJ L k m).2.1.data.size<=64:=by unfold hJ;(repeat' split)<;>exact Nat.zero_le _
theorem Oy:(fS L k m).2.1.data.size<=64:=by
 unfold fS;by_cases h1:m.code=1
 ·rw[Xv h1];exact Nat.zero_le _
 rw[Xu h1];by_cases h2:m.code=2
 ·rw[Xv h2];exact Nat.zero_le _
 rw[Xu h2];by_cases h3:m.code=3
 ·rw[Xv h3];exact Nat.zero_le _
 rw[Xu h3];by_cases h4:m.code=4
 ·rw[Xv h4];exact Nat.zero_le _
 rw[Xu h4];by_cases h5:m.code=5
 ·rw[Xv h5];exact Nat.zero_le _
 rw[Xu h5];by_cases h6:m.code=6
 ·rw[Xv h6];exact Re
 rw[Xu h6];exact Nat.zero_le _
theorem RC:(bu L n k m).data.size<=64:=by
 have hB:∀k m,(dU L n k m).2.1.data.size<=64:=fun k m=>by
  unfold dU;split
  ·exact Nat.zero_le _
  split
  ·exact Nc
  split
  ·exact O5
  split
  ·exact NW
  split
  ·exact Oy
  split
  ·show(if m.code=1 then fU m.k0.kind else if m.code=2 then fU (fe (od m.k0 m.k1))else fU m.k0.rights).data.size<=64
   split
   ·exact Nat.zero_le _
   ·split<;>exact Nat.zero_le _
  ·split<;>exact Nat.zero_le _
 have hR:∀k m,(cZ L n k m).2.1.data.size<=64:=fun k m=>by
  unfold cZ;split
  ·exact Nat.zero_le _
  split
  ·exact Nat.zero_le _
  split
  ·exact Nat.zero_le _
  ·exact hB k m
 unfold bu;split
 ·unfold dq;split
  ·exact hR _ _
  ·exact Nat.zero_le _
 ·exact Nat.zero_le _
theorem Ek:aw (bu L n k m).data:=by have:=RC (L:=L) (n:=n) (k:=k) (m:=m);unfold aw;omega
theorem Gy (hL:aq L) (h0:¬ak (eJ L)=0):let N:Int:=(ak (eJ L):Int);N<=64/\N≠0/\(-64<=p.proc.tmod N/\p.proc.tmod N<=64)/\(0<=(p.proc.tmod N+N).tmod N/\(p.proc.tmod N+N).tmod N<N):=by
 intro N
 have h1:ak (eJ L)<=L.length:=by
  have:=CG L (bH (ak L));have e:(bH (ak L)).toNat=L.length:=by unfold bH ak;omega
  rw[e]at this;exact this
 have h2:=gf hL;have hN:0<N:=by show(0:Int)<(ak (eJ L):Int);omega
 have hN2:N<=64:=by show(ak (eJ L):Int)<=64;omega
 have a1:=Int.tmod_lt_of_pos p.proc hN;have a2:=Int.lt_tmod_of_pos p.proc hN;refine⟨hN2,by omega,⟨by omega,by omega⟩,Int.tmod_nonneg _ (by omega),Int.tmod_lt_of_pos _ hN⟩
theorem F9 (h:eu p n=true) (hk:p.kind=1):(1<=p.mode/\p.mode<=3)/\(0<=p.reg/\p.reg<12)/\(gr p.s0=true/\gr p.s1=true/\gr p.s2=true):=by
 unfold eu at h;rw[Xu (by omega)]at h
 simp only[Xo,Xp]at h;obtain⟨⟨⟨⟨⟨⟨⟨a,b⟩,c⟩,d⟩,e⟩,f⟩,g⟩,h⟩:=h;unfold xb at e;simp only[Xo,Xp]at e;exact⟨⟨b,c⟩,e,f,g,h⟩
end
def nL:ke:=⟨0,0,0,0,0,⟨#[]⟩,0,0,0,false,0⟩
def oD (x:List ke):TL:= .fn (ak x) fun i=>Su (ai x i nL)
def jg (x:List ke):Nat->V:=fun i=>Su (ai x i nL)
def VA (v:V):Int:=match v with
 | .ag l=>match l with
   | [_,_,_,_,_,s,_,_,_]=>match s with
     | .st b=>cE b
     |_=>0
   |_=>0
 |_=>0
def WM:Arg TL:=Vv 11 some id
theorem QS:lg WM:=S7 fun l x h=>by simpa using h
def Ba (n:Nat) (F:Nat->V):Nat->Bool
 |0=>false
 |j+1=>Ba n F j||(decide (j<n)&&decide (100<VA (F j)))
def pj (l:TL):Bool:=match l with
 | .fn n F=>decide (40<bH n)||Ba n F n
 |_=>false
def Aq (x:List ke):Prop:=∀i,i<ak x->aw (ai x i nL).data
def Dq (l:TL):Prop:=∃x:List ke,l=oD x/\Aq x
def T9:Ct:=CP (bE WM kz) (fun x=>some (Dq x.1)) fun x=> .bo (pj x.1)
def vu (x:List ke) (g:Int):Prop:=0<=g/\g<=(ak x:Int)/\Ba (ak x) (fun i=>Su (ai x i nL)) g.toNat=false
theorem Rq {x:List ke} (h:pj (oD x)=false):¬40<bH (ak x):=by
 unfold pj oD at h;simp only[Bool.or_eq_false_iff,decide_eq_false_iff_not]at h;exact h.1
theorem A8 {n:Nat} {F:Nat->V} {j:Nat} (hj:j<n) (h:100<VA (F j)):∀k,j<k->Ba n F k=true
 |0,hk=>by omega
 |k+1,hk=>by
  unfold Ba;by_cases e:j=k
  ·subst e;simp[hj,h]
  ·rw[A8 hj h k (by omega)];rfl
theorem GZ {n:Nat} {F:Nat->V} {j:Nat} (h0:Ba n F j=false) (h:¬100<VA (F j)):Ba n F (j+1)=false:=by
 unfold Ba;simp[h0,h]
def TC:Obj:=Obj.mk 1 1 free.calls ((((((free.slots.put 2 (Key.mk 1 void.oid void.count void.call void.rights 1)).put 4 (Key.mk 4 1 1 void.call void.rights void.value)).put 5 (Key.mk 8 void.oid void.count void.call void.rights void.value)).put 6 (Key.mk 9 void.oid void.count void.call void.rights void.value)).put 7 (Key.mk 10 void.oid void.count void.call void.rights void.value)).put 8 (Key.mk 5 0 1 void.call void.rights void.value)) free.bytes
def TT (x:Int):Obj:=Obj.mk 1 1 free.calls ((free.slots.put 0 (Key.mk 1 void.oid void.count void.call void.rights 2)).put 1 (Key.mk 1 void.oid void.count void.call void.rights x)) free.bytes
def vB (n:Int):List Obj:=bN (bN (kK n) 0 TC) 1 (TT (n-1))
end Go.Sx
