import Derived.Test.YtghpaegglbbocaaGreatCtQc
import Derived.Test.YtghpaegglbbocaaGreatCtBc
import Derived.Test.YtghpaegglbbocaaGreatSpR
set_option linter.unusedSimpArgs false
set_option linter.unusedVariables false
namespace Go.Proofs.YtghpaegglbbocaaGreat
open Go.Sx
set_option maxRecDepth 100000
theorem MA (k:Key) (r:Int) (hq:gy k r):
 ((!aT k||decide (r<0)||decide (7<r))=true->False)/\((!aT k||decide (r<0)||decide (7<r))=false->Key.mk k.kind k.oid k.count k.call (bc BinOp.or IntKind.i64 k.rights
   (bc BinOp.and IntKind.i64 r (eK k.kind))) k.value=iu k r):=by
 obtain⟨hk,h0,h7⟩:=hq;have hr:=gS hk;refine⟨fun h=>?_,fun _=>?_⟩
 ·simp[hk]at h;omega
 obtain⟨kind,oid,count,call,rights,value⟩:=k;simp only at hr⊢;unfold iu cJ;by_cases h2:kind=2
 ·subst h2;have:=IZ (a:=rights) (r:=r) (by have:eK 2=7:=rfl;omega) ⟨h0,h7⟩
  simp only[if_true,show eK 2=7 from rfl,this]
 ·by_cases h3:kind=3
  ·subst h3;have:=Le (a:=rights) (r:=r) (by have:eK 3=1:=rfl;omega) ⟨h0,h7⟩
   simp only[show¬(3:Int)=2 by omega,if_false,if_true,show eK 3=1 from rfl,this]
  ·have hm:eK kind=0:=by unfold eK;simp[h2,h3]
   have hz:rights=0:=by omega
   subst hz;simp only[h2,h3,if_false,hm,Nm ⟨h0,h7⟩]
theorem CR:ck Tryz.prog 140 Tj:=
 eP (aJ gQ (aJ ft cF)) (fun _=>rfl) fun a hq hok=>by
  obtain⟨k,r,_⟩:=a;exact aV (inl:=bp) (ann:=aP) (ab xA ak) (MA k r hq) (by kernel_rfl)
theorem Nn (k:Key) (r:Int) (hq:gy k r):
 (decide (k.kind=2)=true->Key.mk k.kind k.oid k.count k.call (gw k.rights r) k.value=iu k r)/\(decide (k.kind=2)=false->(decide (k.kind=3)=true->(ng 2/\aG IntKind.i64
  (r.tmod 2))/\Key.mk k.kind k.oid k.count k.call (gw k.rights (r.tmod 2)) k.value=iu k r)/\(decide (k.kind=3)=false->k=iu k r)):=by
 refine⟨fun h=>?_,fun h=>⟨fun h'=>⟨⟨by unfold ng;omega,nZ _⟩,?_⟩,fun h'=>?_⟩⟩
 ·unfold iu;rw[Yq (Yn h)];rfl
 ·unfold iu;rw[Yp (Ym h),Yq (Yn h')];rfl
 ·unfold iu;rw[Yp (Ym h),Yp (Ym h')]
theorem CX:ck Tryz.prog 116 Pk:=
 eP (aJ gQ (aJ ft cF)) (fun _=>rfl) fun a hq hok=>by
  obtain⟨k,r,_⟩:=a;exact aV (inl:=bp) (ann:=aP) (ab xW ak) (Nn k r hq) (by kernel_rfl)
theorem RE (a b:Key) (ha:a.wf) (hb:b.wf):
 ((!aT a|| !aT b)=true->false=kF a b)/\((!aT a|| !aT b)=false->((decide (a.kind=0)||tE a b)=true->true=kF a b)/\((decide (a.kind=0)||tE a b)=
   false->(n7 a.kind&&decide (a.kind=b.kind)&&decide (a.oid=b.oid)&&decide (a.count=b.count)&&decide (bc BinOp.andNot IntKind.i64 b.rights a.rights=0))=kF a b)):=by
 unfold kF;cases ha1:aT a
 ·simp
 cases hb1:aT b
 ·simp
 have hra:=gS ha1;have hrb:=gS hb1;refine⟨fun h=>by simp at h,fun _=>⟨fun h=>by simp only[h,Bool.true_and,Bool.true_or],fun h=>?_⟩⟩
 rw[h];simp only[Bool.true_and,Bool.false_or];by_cases hk:a.kind=b.kind
 ·by_cases h2:a.kind=2
  ·have m1:eK a.kind=7:=by rw[h2];rfl
   have m2:eK b.kind=7:=by rw[<-hk,h2];rfl
   rw[An (by omega) (by omega)]
   simp[n7,h2]
  ·by_cases h3:a.kind=3
   ·have m1:eK a.kind=1:=by rw[h3];rfl
    have m2:eK b.kind=1:=by rw[<-hk,h3];rfl
    rw[An (by omega) (by omega)]
    simp[n7,h3]
   ·simp[n7,h2,h3]
 ·simp[hk]
theorem Qy:ck Tryz.prog 103 LY:=
 mf fz fz (fun _ _=>rfl) fun a b ha hb=>aV (inl:=bp) (ann:=aP) (ab xA ak) (RE a b ha hb) (by kernel_rfl)
theorem Ph (a b:Key) (ha:a.wf) (hb:b.wf):
 ((!decide (bD a=0)|| !decide (bD b=0))=true->false=kF a b)/\((!decide (bD a=0)|| !decide (bD b=0))=false->((decide (a.kind=0)||tE a b)=true->true=kF a
   b)/\((decide (a.kind=0)||tE a b)=false->((decide (a.kind=2)||decide (a.kind=3))&&decide (a.kind=b.kind)&&decide (a.oid=b.oid)&&decide (a.count=b.count)&&decide (gw
   a.rights b.rights=a.rights))=kF a b)):=by
 unfold kF bD;cases ha1:aT a
 ·simp
 cases hb1:aT b
 ·simp
 refine⟨fun h=>by simp at h,fun _=>⟨fun h=>by simp only[h,Bool.true_and,Bool.true_or],fun h=>?_⟩⟩
 rw[h];simp only[Bool.true_and,Bool.false_or]
theorem Qw:ck Tryz.prog 16 LY:=
 mf fz fz (fun _ _=>rfl) fun a b ha hb=>aV (inl:=bp) (ann:=aP) (ab rf (ab xW ak)) (Ph a b ha hb) (by kernel_rfl)
end Go.Proofs.YtghpaegglbbocaaGreat
