import Derived.Test.YtmfbohanboiklaaSpHw
set_option linter.unusedSimpArgs false
set_option linter.unusedVariables false
set_option maxRecDepth 100000
namespace Go.Sx
def kH (L:List Obj) (oid:Int) (k:Key) (g:Int):List Obj:=dv L oid (dE L oid k g)
def sI (L M:List Obj):Prop:=L.length=M.length/\(∀j,(aq L j free).kind=(aq M j free).kind/\(aq L j free).count=(aq M j free).count/\(aq L j free).calls=(aq M j free).calls)/\
 ∀j i,i<16->(aq L j free).slots.at i=void\/(aq L j free).slots.at i=(aq M j free).slots.at i
theorem z1 {L M:List Obj} (h:sI L M) (o:Int):az L o=az M o:=by
 unfold az aa;rw[h.1]
theorem C2 {L M:List Obj} (h:sI L M) (k:Key):aT L k=aT M k:=by
 have h1:bH L=bH M:=by unfold bH aa;rw[h.1]
 have h2:dU L k=dU M k:=by
  unfold dU bL;obtain⟨a,b,c⟩:=h.2.1 k.oid.toNat;rw[z1 h,a,b,c]
 unfold aT;rw[h1,h2]
theorem wk {L M:List Obj} (h:sI L M) {o:Int} {w:Bool} {i:Nat} (hi:i<16) (hc:gq (iH L o w i)=true):iH L o w i=iH M o w i:=by
 have hh:az L o=0:=Decidable.byContradiction fun hn=>by
  rw[z6 hn,vi]at hc;simp at hc
 have hh':az M o=0:=by rw[<-z1 h];exact hh
 unfold iH bS at hc⊢;rw[NX hh]at hc⊢;rw[NX hh'];rcases h.2.2 o.toNat i hi with hv|hv
 ·rw[hv,pU,qh]at hc;simp[vi]at hc
 ·rw[hv,C2 h]
theorem GJ {L M:List Obj} (h:sI L M) {oid:Int}:∀c,Cz L oid c->Cz M oid c:=by
 intro c hc;induction hc with
 |base i hi h1=>
  have e:=wk h hi h1;rw[e]at h1⊢;exact .base i hi h1
 |step c d hc hd ih=>
  refine .step c d ih ?_;obtain⟨k,h1,h2,⟨a,⟨i,hi,hk⟩|b⟩|⟨a,⟨i,hi,hk⟩|b⟩⟩:=hd
  ·rw[hk]at h1;exact⟨k,by rw[hk];exact h1,h2,.inl ⟨a,.inl ⟨i,hi,by rw[hk];exact wk h hi h1⟩⟩⟩
  ·exact⟨k,h1,h2,.inl ⟨a,.inr b⟩⟩
  ·rw[hk]at h1;exact⟨k,by rw[hk];exact h1,h2,.inr ⟨a,.inl ⟨i,hi,by rw[hk];exact wk h hi h1⟩⟩⟩
  ·exact⟨k,h1,h2,.inr ⟨a,.inr b⟩⟩
theorem Ad {L:List Obj} (hL:dW L) {oid:Int} {c:Cp}:c∈aI L oid↔Cz L oid c:=by
 have h5:∀x∈la L oid,x.length=5:=fun x hx=>(nf hx).2.1
 exact(Fs h5 (oP L oid)).trans (C3 (iM hL).2)
theorem GB {L:List Obj} (hL:dW L) (oid:Int):(aI L oid).length<=8192:=by
 have h5:∀x∈la L oid,x.length=5:=fun x hx=>(nf hx).2.1
 have hp:=(eF h5 (oP L oid)).2;unfold aI;rw[hp.length_eq];exact jP (iM hL).2 _
theorem HH {L M:List Obj} (hL:dW L) (hM:dW M) (h:sI L M) {oid:Int} {j:Nat} (hj:j<(aI L oid).length):il (bP (cJ (aI L oid) j)) (aI M oid)=true:=by
 have hc:=(Ad hL).1 (at_mem hj).1;obtain⟨o1,o2,o3,o4⟩:=DY _ hc;unfold il;rw[List.any_eq_true];refine⟨_,(Ad hM).2 (GJ h _ hc),?_⟩;rw[o3];unfold je;rw[o1,Fp];simp
theorem HP {L:List Obj} {oid:Int} {o:Obj} (hL:dW L) (h:cq L oid o=0) (h1:(aq L oid.toNat free).kind=o.kind) (h2:(aq L oid.toNat free).count=o.count) (h3:(aq L oid.toNat free).calls=o.calls)
  (h4:∀i,i<16->(aq L oid.toNat free).slots.at i=void\/(aq L oid.toNat free).slots.at i=o.slots.at i):sI L (dv L oid o):=by
 obtain⟨p1,p2,p3,p4⟩:=vx hL h;obtain⟨r0,r1⟩:=de.1 p2;refine⟨p4.symm,fun j=>?_,fun j i hi=>?_⟩
 ·rw[p3,mI (by omega)]
  split
  ·rename_i e;subst e;exact⟨h1,h2,h3⟩
  ·exact⟨rfl,rfl,rfl⟩
 ·rw[p3,mI (by omega)]
  split
  ·rename_i e;subst e;exact h4 i hi
  ·exact .inr rfl
theorem Jx {L:List Obj} {oid:Int} {k:Key} {g:Int} (hL:dW L) (hg:iV L oid g) (h:cq L oid (dE L oid k g)=0):dW (kH L oid k g)/\cc (kH L oid k g) oid=true/\sI L (kH L oid k g):=by
 obtain⟨p1,p2,p3,p4⟩:=vx hL h;obtain⟨r0,r1⟩:=de.1 p2
 have hq:∀(P:Obj->Prop),P ⟨(aq L oid.toNat free).kind,(aq L oid.toNat free).count,(aq L oid.toNat free).calls,(aq L oid.toNat free).slots.put g.toNat k,(aq L oid.toNat free).bytes⟩->P (aq L oid.toNat free)->P (dE L oid k g):=fun P a b=>by
  unfold dE;split
  ·exact a
  ·exact b
 refine⟨p1,decide_eq_true (de.2 ⟨r0,?_⟩),HP hL h (hq (fun o=>(aq L oid.toNat free).kind=o.kind) rfl rfl) (hq (fun o=>(aq L oid.toNat free).count=o.count) rfl rfl) (hq (fun o=>(aq L oid.toNat free).calls=o.calls) rfl rfl) fun i hi=>?_⟩
 ·show oid<((kH L oid k g).length:Int)
  unfold kH;rw[p4];exact r1
 ·unfold dE;split
  ·rename_i hlt;have hlt:=NU hlt;show _\/_=((aq L oid.toNat free).slots.put g.toNat k).at i
   have g4:=hg.1;rw[b6.jl _ _ _ _ (by omega)]
   split
   ·rename_i e;subst e;exact .inl (hg.2 hlt)
   ·exact .inr rfl
  ·exact .inr rfl
end Go.Sx
