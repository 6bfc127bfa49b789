import Derived.Test.YtlblcfaclmpekaaGreatCtQc
import Derived.Test.YtlblcfaclmpekaaGreatCtBc
import Derived.Test.YtlblcfaclmpekaaGreatSpR
set_option linter.unusedSimpArgs false
set_option linter.unusedVariables false
namespace Go.Proofs.YtlblcfaclmpekaaGreat
open Go.Sx
set_option maxRecDepth 100000
theorem KH (k:Key) (r:Int) (hq:u4 k r):
 ((!aW k||decide (r<0)||decide (7<r))=true->False)/\((!aW k||decide (r<0)||decide (7<r))=false->Key.mk k.kind k.oid k.count k.call (aY BinOp.or IntKind.i64 k.rights
   (aY BinOp.and IntKind.i64 r (ef k.kind))) k.value=nN k r):=by
 obtain⟨hk,h0,h7⟩:=hq;have hr:=gC hk;refine⟨fun h=>?_,fun _=>?_⟩
 ·simp[hk]at h;omega
 obtain⟨kind,oid,count,call,rights,value⟩:=k;simp only at hr⊢;unfold nN cA;by_cases h2:kind=2
 ·subst h2;have:=Io (a:=rights) (r:=r) (by have:ef 2=7:=rfl;omega) ⟨h0,h7⟩
  simp only[if_true,show ef 2=7 from rfl,this]
 ·by_cases h3:kind=3
  ·subst h3;have:=Ii (a:=rights) (r:=r) (by have:ef 3=1:=rfl;omega) ⟨h0,h7⟩
   simp only[show¬(3:Int)=2 by omega,if_false,if_true,show ef 3=1 from rfl,this]
  ·have hm:ef kind=0:=by unfold ef;simp[h2,h3]
   have hz:rights=0:=by omega
   subst hz;simp only[h2,h3,if_false,hm,G5 ⟨h0,h7⟩]
theorem BZ:dD Tryz.prog 201 Py:=
 jH (aQ mC (aQ fP dU)) (fun _=>rfl) fun a hq hok=>by
  obtain⟨k,r,_⟩:=a;exact bx (inl:=ca) (ann:=aV) (ae wK ay) (KH k r hq) (by kernel_rfl)
theorem MG (a b:Key) (ha:a.wf) (hb:b.wf):
 ((!aW a|| !aW b)=true->false=nF a b)/\((!aW a|| !aW b)=false->((decide (a.kind=0)||GR a b)=true->true=nF a b)/\((decide (a.kind=0)||GR a b)=
   false->(uc a.kind&&decide (a.kind=b.kind)&&decide (a.oid=b.oid)&&decide (a.count=b.count)&&decide (aY BinOp.andNot IntKind.i64 b.rights a.rights=0))=nF a b)):=by
 unfold nF;cases ha1:aW a
 ·simp
 cases hb1:aW b
 ·simp
 have hra:=gC ha1;have hrb:=gC hb1;refine⟨fun h=>by simp at h,fun _=>⟨fun h=>by simp only[h,Bool.true_and,Bool.true_or],fun h=>?_⟩⟩
 rw[h];simp only[Bool.true_and,Bool.false_or];by_cases hk:a.kind=b.kind
 ·by_cases h2:a.kind=2
  ·have m1:ef a.kind=7:=by rw[h2];rfl
   have m2:ef b.kind=7:=by rw[<-hk,h2];rfl
   rw[xJ (by omega) (by omega)]
   simp[uc,h2]
  ·by_cases h3:a.kind=3
   ·have m1:ef a.kind=1:=by rw[h3];rfl
    have m2:ef b.kind=1:=by rw[<-hk,h3];rfl
    rw[xJ (by omega) (by omega)]
    simp[uc,h3]
   ·simp[uc,h2,h3]
 ·simp[hk]
theorem MJ:dD Tryz.prog 186 Rz:=
 wm iw iw (fun _ _=>rfl) fun a b ha hb=>bx (inl:=ca) (ann:=aV) (ae wK ay) (MG a b ha hb) (by kernel_rfl)
end Go.Proofs.YtlblcfaclmpekaaGreat
