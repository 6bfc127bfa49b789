import Derived.Test.YtlblcfaclmpekaaGreatCtQc
import Derived.Test.YtlblcfaclmpekaaGreatCtBc
import Derived.Test.YtlblcfaclmpekaaGreatSpR
set_option linter.unusedSimpArgs false
set_option linter.unusedVariables false
namespace Go.Proofs.YtlblcfaclmpekaaGreat
open Go.Sx
set_option maxRecDepth 100000
theorem HW (k:Key) (r:Int) (hq:vq k r):
 ((!aS k||decide (r<0)||decide (7<r))=true->False)/\((!aS k||decide (r<0)||decide (7<r))=false->Key.mk k.kind k.oid k.count k.call (aV BinOp.or IntKind.i64 k.rights
   (aV BinOp.and IntKind.i64 r (ei k.kind))) k.value=ou k r):=by
 obtain⟨hk,h0,h7⟩:=hq;have hr:=gM hk;refine⟨fun h=>?_,fun _=>?_⟩
 ·simp[hk]at h;omega
 obtain⟨kind,oid,count,call,rights,value⟩:=k;simp only at hr⊢;unfold ou cz;by_cases h2:kind=2
 ·subst h2;have:=HQ (a:=rights) (r:=r) (by have:ei 2=7:=rfl;omega) ⟨h0,h7⟩
  simp only[if_true,show ei 2=7 from rfl,this]
 ·by_cases h3:kind=3
  ·subst h3;have:=KV (a:=rights) (r:=r) (by have:ei 3=1:=rfl;omega) ⟨h0,h7⟩
   simp only[show¬(3:Int)=2 by omega,if_false,if_true,show ei 3=1 from rfl,this]
  ·have hm:ei kind=0:=by unfold ei;simp[h2,h3]
   have hz:rights=0:=by omega
   subst hz;simp only[h2,h3,if_false,hm,JH ⟨h0,h7⟩]
theorem AQ:dC Tryz.prog 201 Rw:=
 jY (aN mG (aN fN dX)) (fun _=>rfl) fun a hq hok=>by
  obtain⟨k,r,_⟩:=a;exact bu (inl:=ca) (ann:=aR) (ab wO au) (HW k r hq) (by kernel_rfl)
theorem M4 (a b:Key) (ha:a.wf) (hb:b.wf):
 ((!aS a|| !aS b)=true->false=ow a b)/\((!aS a|| !aS b)=false->((decide (a.kind=0)||Ar a b)=true->true=ow a b)/\((decide (a.kind=0)||Ar a b)=
   false->(uq a.kind&&decide (a.kind=b.kind)&&decide (a.oid=b.oid)&&decide (a.count=b.count)&&decide (aV BinOp.andNot IntKind.i64 b.rights a.rights=0))=ow a b)):=by
 unfold ow;cases ha1:aS a
 ·simp
 cases hb1:aS b
 ·simp
 have hra:=gM ha1;have hrb:=gM hb1;refine⟨fun h=>by simp at h,fun _=>⟨fun h=>by simp only[h,Bool.true_and,Bool.true_or],fun h=>?_⟩⟩
 rw[h];simp only[Bool.true_and,Bool.false_or];by_cases hk:a.kind=b.kind
 ·by_cases h2:a.kind=2
  ·have m1:ei a.kind=7:=by rw[h2];rfl
   have m2:ei b.kind=7:=by rw[<-hk,h2];rfl
   rw[xW (by omega) (by omega)]
   simp[uq,h2]
  ·by_cases h3:a.kind=3
   ·have m1:ei a.kind=1:=by rw[h3];rfl
    have m2:ei b.kind=1:=by rw[<-hk,h3];rfl
    rw[xW (by omega) (by omega)]
    simp[uq,h3]
   ·simp[uq,h2,h3]
 ·simp[hk]
theorem NT:dC Tryz.prog 186 PJ:=
 wh ir ir (fun _ _=>rfl) fun a b ha hb=>bu (inl:=ca) (ann:=aR) (ab wO au) (M4 a b ha hb) (by kernel_rfl)
end Go.Proofs.YtlblcfaclmpekaaGreat
