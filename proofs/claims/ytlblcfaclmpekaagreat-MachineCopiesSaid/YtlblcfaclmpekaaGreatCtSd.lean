import Derived.Test.YtlblcfaclmpekaaGreatCtSb
import Derived.Test.YtlblcfaclmpekaaGreatSpMd
import Derived.Test.YtlblcfaclmpekaaGreatCtQs
set_option linter.unusedSimpArgs false
set_option linter.unusedVariables false
namespace Go.Proofs.YtlblcfaclmpekaaGreat
open Go.Sx
set_option maxRecDepth 100000
theorem NM (x:List k9) (L:List Sx.Obj) (n:Int) (hq:oK (ai x) L n):
 true=true/\(∃g,Cg (ai x) L n g/\bU (an x)=bU (an x)/\0=g/\n=aO (ai x) L n g/\L=aL (ai x) L n g/\an x=an x/\(BX x=BX x)/\0=g.toNat/\(Ev (ai x)
  L n)=Ev (ai x) L n)/\∀(g:Int),Cg (ai x) L n g->(decide (g<bU (an x))=true->(0<=g/\g< ↑(an x))/\g.toNat<an x/\true=true/\(aw (aL (ai x) L n g)/\az
  (aq x g.toNat gN).data/\gF (aO (ai x) L n g))/\((!decide (g9 (aO (ai x) L n g) (aq x g.toNat gN)=0))=true->jv (aO (ai x) L n g) (aq x g.toNat gN)=aO
  (ai x) L n (au (ai x) L n)/\g9 (aO (ai x) L n g) (aq x g.toNat gN)=qI (ai x) L n/\fk (aL (ai x) L n g) (aO (ai x) L n g) (aq x g.toNat gN)=aL (ai x)
  L n (au (ai x) L n)/\g.toNat=(au (ai x) L n).toNat/\(Ev (ai x) L n)=Ev (ai x) L n)/\((!decide (g9 (aO (ai x) L n g) (aq x g.toNat gN)=0))=false->oW g.toNat 200
  /\aP IntKind.i64 (g+1)/\∃g',Cg (ai x) L n g'/\(1000-g').toNat<(1000-g).toNat/\bU (an x)=bU (an x)/\g+1=g'/\jv (aO (ai x) L n g) (aq x g.toNat gN)=aO
  (ai x) L n g'/\fk (aL (ai x) L n g) (aO (ai x) L n g) (aq x g.toNat gN)=aL (ai x) L n g'/\an x=an x/\(BX x=BX x)/\g.toNat.succ=g'.toNat/\(ux g.toNat (Ev
  (ai x) L n) (TJ (aM (aL (ai x) L n g) (aO (ai x) L n g) (aq x g.toNat gN))))=Ev (ai x) L n))/\(decide (g<bU (an x))=false->aO (ai x) L n g=aO (ai x) L n
  (au (ai x) L n)/\0=qI (ai x) L n/\aL (ai x) L n g=aL (ai x) L n (au (ai x) L n)/\g.toNat=(au (ai x) L n).toNat/\(Ev (ai x) L n)=Ev (ai x) L n):=by
 obtain⟨hL,hn,x',hx',hxs,hxl⟩:=id hq;have hlen:(ai x).len=an x:=rfl
 have hxe:pA x/\an x<=40:=by
  have e1:an x=an x':=congrArg TL.len hx';refine⟨fun i hi=>?_,by omega⟩
  have e2:(ai x).get i=(ai x').get i:=by rw[hx']
  have e3:Lz (aq x i gN)=Lz (aq x' i gN):=e2
  have e4:(aq x i gN).data=(aq x' i gN).data:=by
   simp only[Lz,V.ag.injEq,List.cons.injEq,V.st.injEq]at e3;exact e3.2.2.2.2.2.1
  rw[e4];exact hxs i (by omega)
 obtain⟨hxs,hxl⟩:=hxe;have hat:∀j:Nat,zT (ai x) j=aq x j gN:=fun j=>rfl
 refine⟨rfl,⟨0,⟨by omega,by omega,fun j hj=>by omega⟩,rfl,rfl,rfl,rfl,rfl,rfl,rfl,rfl⟩,fun g hg=>⟨fun hlt=>?_,fun hge=>?_⟩⟩
 ·have hlt:g<(an x:Int):=VO hlt;obtain⟨g0,g1,g2⟩:=id hg;obtain⟨k1,k2⟩:=vx (l:=ai x) hL hn g.toNat;have hgn:(g.toNat:Int)=g:=by omega
  have t1:(g+1).toNat=g.toNat+1:=by omega
  have s1:aL (ai x) L n (g+1)=fk (aL (ai x) L n g) (aO (ai x) L n g) (aq x g.toNat gN):=by unfold aL aO;rw[t1];rfl
  have s2:aO (ai x) L n (g+1)=jv (aO (ai x) L n g) (aq x g.toNat gN):=by unfold aO;rw[t1];rfl
  refine⟨⟨g0,hlt⟩,by omega,rfl,⟨k1,hxs g.toNat (by omega),k2⟩,fun he=>?_,fun he=>?_⟩
  ·have he:¬g9 (aO (ai x) L n g) (aq x g.toNat gN)=0:=by simpa using he
   have hs:=IB hg (.inr he)
   have hr:ec (aq x g.toNat gN) (aO (ai x) L n g)=false:=by
    unfold g9 at he;cases h:ec (aq x g.toNat gN) (aO (ai x) L n g)with
    |false=>rfl
    |true=>rw[h]at he;simp at he
   have z1:jv (aO (ai x) L n g) (aq x g.toNat gN)=aO (ai x) L n g:=by unfold jv;rw[VQ (by simp[hr])]
   have z2:fk (aL (ai x) L n g) (aO (ai x) L n g) (aq x g.toNat gN)=aL (ai x) L n g:=by unfold fk;rw[VQ (by simp[hr])]
   have z3:g9 (aO (ai x) L n g) (aq x g.toNat gN)=2:=by unfold g9;rw[VQ (by simp[hr])]
   have z4:qI (ai x) L n=2:=by unfold qI;rw[hs,VQ (by rw[hlen];omega)]
   rw[z1,z2,z3,z4,hs];exact⟨rfl,rfl,rfl,rfl,rfl⟩
  ·have he:g9 (aO (ai x) L n g) (aq x g.toNat gN)=0:=by simpa using he
   refine⟨⟨by unfold maxLen;omega,by omega⟩,by simp only[aP,cj];omega,g+1,⟨by omega,by rw[hlen];omega,fun j hj=>?_⟩,by omega,rfl,rfl,s2.symm,s1.symm,rfl,rfl,t1.symm,?_⟩
   ·by_cases e:(j:Int)=g
    ·have e':j=g.toNat:=by omega
     subst e';exact he
    ·exact g2 j (by omega)
   ·funext i
    unfold ux;cases hb:Nat.beq i g.toNat with
    |false=>rfl
    |true=>
     have:=Nat.eq_of_beq_eq_true hb;subst this;rfl
 ·have hge:¬g<(an x:Int):=VN hge;obtain⟨g0,g1,g2⟩:=id hg;have hgl:g=((ai x).len:Int):=by rw[hlen]at g1⊢;omega
  have hs:=IB hg (.inl hgl);have z4:qI (ai x) L n=0:=by unfold qI;rw[hs,VR hgl]
  rw[hs,z4];exact⟨rfl,rfl,rfl,rfl,rfl⟩
theorem Mp:oM Tryz.prog 20 CW:=Rn fun x L n hq=>bR (inl:=(fun f=>f==32)) (ann:=(lr [(20,5,UC [0,1,13,14] 0 1 6 15)])) ay (aF Eo aB) (NM x L n hq) (by kernel_rfl)
end Go.Proofs.YtlblcfaclmpekaaGreat
