import Derived.Test.YtlblcfaclmpekaaGreatCtQc
import Derived.Test.YtlblcfaclmpekaaGreatCtBc
import Derived.Test.YtlblcfaclmpekaaGreatSpR
set_option linter.unusedSimpArgs false
set_option linter.unusedVariables false
namespace Go.Proofs.YtlblcfaclmpekaaGreat
open Go.Sx
set_option maxRecDepth 100000
theorem KJ (k:Key) (r:Int) (hq:vH k r):
 ((!aN k||decide (r<0)||decide (7<r))=true->False)/\((!aN k||decide (r<0)||decide (7<r))=false->Key.mk k.kind k.oid k.count k.call (aT BinOp.or IntKind.i64 k.rights
   (aT BinOp.and IntKind.i64 r (ec k.kind))) k.value=oE k r):=by
 obtain⟨hk,h0,h7⟩:=hq;have hr:=gL hk;refine⟨fun h=>?_,fun _=>?_⟩
 ·simp[hk]at h;omega
 obtain⟨kind,oid,count,call,rights,value⟩:=k;simp only at hr⊢;unfold oE cC;by_cases h2:kind=2
 ·subst h2;have:=JF (a:=rights) (r:=r) (by have:ec 2=7:=rfl;omega) ⟨h0,h7⟩
  simp only[if_true,show ec 2=7 from rfl,this]
 ·by_cases h3:kind=3
  ·subst h3;have:=Mf (a:=rights) (r:=r) (by have:ec 3=1:=rfl;omega) ⟨h0,h7⟩
   simp only[show¬(3:Int)=2 by omega,if_false,if_true,show ec 3=1 from rfl,this]
  ·have hm:ec kind=0:=by unfold ec;simp[h2,h3]
   have hz:rights=0:=by omega
   subst hz;simp only[h2,h3,if_false,hm,HL ⟨h0,h7⟩]
theorem AZ:cV Tryz.prog 201 QP:=
 jT (aM mL (aM fP dM)) (fun _=>rfl) fun a hq hok=>by
  obtain⟨k,r,_⟩:=a;exact bd (inl:=bS) (ann:=aO) (ab xa an) (KJ k r hq) (by kernel_rfl)
theorem MH (a b:Key) (ha:a.wf) (hb:b.wf):
 ((!aN a|| !aN b)=true->false=od a b)/\((!aN a|| !aN b)=false->((decide (a.kind=0)||BC a b)=true->true=od a b)/\((decide (a.kind=0)||BC a b)=
   false->(nC a.kind&&decide (a.kind=b.kind)&&decide (a.oid=b.oid)&&decide (a.count=b.count)&&decide (aT BinOp.andNot IntKind.i64 b.rights a.rights=0))=od a b)):=by
 unfold od;cases ha1:aN a
 ·simp
 cases hb1:aN b
 ·simp
 have hra:=gL ha1;have hrb:=gL hb1;refine⟨fun h=>by simp at h,fun _=>⟨fun h=>by simp only[h,Bool.true_and,Bool.true_or],fun h=>?_⟩⟩
 rw[h];simp only[Bool.true_and,Bool.false_or];by_cases hk:a.kind=b.kind
 ·by_cases h2:a.kind=2
  ·have m1:ec a.kind=7:=by rw[h2];rfl
   have m2:ec b.kind=7:=by rw[<-hk,h2];rfl
   rw[zi (by omega) (by omega)]
   simp[nC,h2]
  ·by_cases h3:a.kind=3
   ·have m1:ec a.kind=1:=by rw[h3];rfl
    have m2:ec b.kind=1:=by rw[<-hk,h3];rfl
    rw[zi (by omega) (by omega)]
    simp[nC,h3]
   ·simp[nC,h2,h3]
 ·simp[hk]
theorem PN:cV Tryz.prog 186 SJ:=
 uo gW gW (fun _ _=>rfl) fun a b ha hb=>bd (inl:=bS) (ann:=aO) (ab xa an) (MH a b ha hb) (by kernel_rfl)
end Go.Proofs.YtlblcfaclmpekaaGreat
