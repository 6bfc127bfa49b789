import Derived.Test.YtlblcfaclmpekaaGreatCtQc
import Derived.Test.YtlblcfaclmpekaaGreatCtBc
import Derived.Test.YtlblcfaclmpekaaGreatSpR
set_option linter.unusedSimpArgs false
set_option linter.unusedVariables false
namespace Go.Proofs.YtlblcfaclmpekaaGreat
open Go.Sx
set_option maxRecDepth 100000
theorem G0 (k:Key) (r:Int) (hq:uC k r):
 ((!aP k||decide (r<0)||decide (7<r))=true->False)/\((!aP k||decide (r<0)||decide (7<r))=false->Key.mk k.kind k.oid k.count k.call (aS BinOp.or IntKind.i64 k.rights
   (aS BinOp.and IntKind.i64 r (dZ k.kind))) k.value=nr k r):=by
 obtain⟨hk,h0,h7⟩:=hq;have hr:=gD hk;refine⟨fun h=>?_,fun _=>?_⟩
 ·simp[hk]at h;omega
 obtain⟨kind,oid,count,call,rights,value⟩:=k;simp only at hr⊢;unfold nr cg;by_cases h2:kind=2
 ·subst h2;have:=JX (a:=rights) (r:=r) (by have:dZ 2=7:=rfl;omega) ⟨h0,h7⟩
  simp only[if_true,show dZ 2=7 from rfl,this]
 ·by_cases h3:kind=3
  ·subst h3;have:=J2 (a:=rights) (r:=r) (by have:dZ 3=1:=rfl;omega) ⟨h0,h7⟩
   simp only[show¬(3:Int)=2 by omega,if_false,if_true,show dZ 3=1 from rfl,this]
  ·have hm:dZ kind=0:=by unfold dZ;simp[h2,h3]
   have hz:rights=0:=by omega
   subst hz;simp only[h2,h3,if_false,hm,Jb ⟨h0,h7⟩]
theorem AN:dA Tryz.prog 201 Q4:=
 jB (aK lZ (aK fE dP)) (fun _=>rfl) fun a hq hok=>by
  obtain⟨k,r,_⟩:=a;exact bx (inl:=cw) (ann:=aQ) (ab vg aq) (G0 k r hq) (by kernel_rfl)
theorem Nu (a b:Key) (ha:a.wf) (hb:b.wf):
 ((!aP a|| !aP b)=true->false=nM a b)/\((!aP a|| !aP b)=false->((decide (a.kind=0)||Gi a b)=true->true=nM a b)/\((decide (a.kind=0)||Gi a b)=
   false->(tC a.kind&&decide (a.kind=b.kind)&&decide (a.oid=b.oid)&&decide (a.count=b.count)&&decide (aS BinOp.andNot IntKind.i64 b.rights a.rights=0))=nM a b)):=by
 unfold nM;cases ha1:aP a
 ·simp
 cases hb1:aP b
 ·simp
 have hra:=gD ha1;have hrb:=gD hb1;refine⟨fun h=>by simp at h,fun _=>⟨fun h=>by simp only[h,Bool.true_and,Bool.true_or],fun h=>?_⟩⟩
 rw[h];simp only[Bool.true_and,Bool.false_or];by_cases hk:a.kind=b.kind
 ·by_cases h2:a.kind=2
  ·have m1:dZ a.kind=7:=by rw[h2];rfl
   have m2:dZ b.kind=7:=by rw[<-hk,h2];rfl
   rw[xE (by omega) (by omega)]
   simp[tC,h2]
  ·by_cases h3:a.kind=3
   ·have m1:dZ a.kind=1:=by rw[h3];rfl
    have m2:dZ b.kind=1:=by rw[<-hk,h3];rfl
    rw[xE (by omega) (by omega)]
    simp[tC,h3]
   ·simp[tC,h2,h3]
 ·simp[hk]
theorem Mv:dA Tryz.prog 186 PZ:=
 vl h9 h9 (fun _ _=>rfl) fun a b ha hb=>bx (inl:=cw) (ann:=aQ) (ab vg aq) (Nu a b ha hb) (by kernel_rfl)
end Go.Proofs.YtlblcfaclmpekaaGreat
