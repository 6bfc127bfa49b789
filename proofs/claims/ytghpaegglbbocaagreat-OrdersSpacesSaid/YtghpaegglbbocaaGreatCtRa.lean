import Derived.Test.YtghpaegglbbocaaGreatCtQc
import Derived.Test.YtghpaegglbbocaaGreatCtBc
import Derived.Test.YtghpaegglbbocaaGreatSpR
set_option linter.unusedSimpArgs false
set_option linter.unusedVariables false
namespace Go.Proofs.YtghpaegglbbocaaGreat
open Go.Sx
set_option maxRecDepth 100000
theorem Mn (k:Key) (r:Int) (hq:gz k r):
 ((!aT k||decide (r<0)||decide (7<r))=true->False)/\((!aT k||decide (r<0)||decide (7<r))=false->Key.mk k.kind k.oid k.count k.call (bd BinOp.or IntKind.i64 k.rights
   (bd BinOp.and IntKind.i64 r (eN k.kind))) k.value=iv k r):=by
 obtain⟨hk,h0,h7⟩:=hq;have hr:=gS hk;refine⟨fun h=>?_,fun _=>?_⟩
 ·simp[hk]at h;omega
 obtain⟨kind,oid,count,call,rights,value⟩:=k;simp only at hr⊢;unfold iv cL;by_cases h2:kind=2
 ·subst h2;have:=H5 (a:=rights) (r:=r) (by have:eN 2=7:=rfl;omega) ⟨h0,h7⟩
  simp only[if_true,show eN 2=7 from rfl,this]
 ·by_cases h3:kind=3
  ·subst h3;have:=H8 (a:=rights) (r:=r) (by have:eN 3=1:=rfl;omega) ⟨h0,h7⟩
   simp only[show¬(3:Int)=2 by omega,if_false,if_true,show eN 3=1 from rfl,this]
  ·have hm:eN kind=0:=by unfold eN;simp[h2,h3]
   have hz:rights=0:=by omega
   subst hz;simp only[h2,h3,if_false,hm,Jh ⟨h0,h7⟩]
theorem Cc:cj Tryz.prog 140 Tz:=
 eY (aJ gM (aJ fl cK)) (fun _=>rfl) fun a hq hok=>by
  obtain⟨k,r,_⟩:=a;exact aW (inl:=bn) (ann:=aP) (ae wO an) (Mn k r hq) (by kernel_rfl)
theorem Ki (k:Key) (r:Int) (hq:gz k r):
 (decide (k.kind=2)=true->Key.mk k.kind k.oid k.count k.call (gw k.rights r) k.value=iv k r)/\(decide (k.kind=2)=false->(decide (k.kind=3)=true->(mX 2/\aI IntKind.i64
  (r.tmod 2))/\Key.mk k.kind k.oid k.count k.call (gw k.rights (r.tmod 2)) k.value=iv k r)/\(decide (k.kind=3)=false->k=iv k r)):=by
 refine⟨fun h=>?_,fun h=>⟨fun h'=>⟨⟨by unfold mX;omega,nQ _⟩,?_⟩,fun h'=>?_⟩⟩
 ·unfold iv;rw[XR (XO h)];rfl
 ·unfold iv;rw[XQ (XN h),XR (XO h')];rfl
 ·unfold iv;rw[XQ (XN h),XQ (XN h')]
theorem Bv:cj Tryz.prog 116 PU:=
 eY (aJ gM (aJ fl cK)) (fun _=>rfl) fun a hq hok=>by
  obtain⟨k,r,_⟩:=a;exact aW (inl:=bn) (ann:=aP) (ae ye an) (Ki k r hq) (by kernel_rfl)
theorem Pj (a b:Key) (ha:a.wf) (hb:b.wf):
 ((!aT a|| !aT b)=true->false=ky a b)/\((!aT a|| !aT b)=false->((decide (a.kind=0)||wC a b)=true->true=ky a b)/\((decide (a.kind=0)||wC a b)=
   false->(nV a.kind&&decide (a.kind=b.kind)&&decide (a.oid=b.oid)&&decide (a.count=b.count)&&decide (bd BinOp.andNot IntKind.i64 b.rights a.rights=0))=ky a b)):=by
 unfold ky;cases ha1:aT a
 ·simp
 cases hb1:aT b
 ·simp
 have hra:=gS ha1;have hrb:=gS hb1;refine⟨fun h=>by simp at h,fun _=>⟨fun h=>by simp only[h,Bool.true_and,Bool.true_or],fun h=>?_⟩⟩
 rw[h];simp only[Bool.true_and,Bool.false_or];by_cases hk:a.kind=b.kind
 ·by_cases h2:a.kind=2
  ·have m1:eN a.kind=7:=by rw[h2];rfl
   have m2:eN b.kind=7:=by rw[<-hk,h2];rfl
   rw[yS (by omega) (by omega)]
   simp[nV,h2]
  ·by_cases h3:a.kind=3
   ·have m1:eN a.kind=1:=by rw[h3];rfl
    have m2:eN b.kind=1:=by rw[<-hk,h3];rfl
    rw[yS (by omega) (by omega)]
    simp[nV,h3]
   ·simp[nV,h2,h3]
 ·simp[hk]
theorem OY:cj Tryz.prog 103 Mm:=
 mz fx fx (fun _ _=>rfl) fun a b ha hb=>aW (inl:=bn) (ann:=aP) (ae wO an) (Pj a b ha hb) (by kernel_rfl)
theorem Qs (a b:Key) (ha:a.wf) (hb:b.wf):
 ((!decide (bD a=0)|| !decide (bD b=0))=true->false=ky a b)/\((!decide (bD a=0)|| !decide (bD b=0))=false->((decide (a.kind=0)||wC a b)=true->true=ky a
   b)/\((decide (a.kind=0)||wC a b)=false->((decide (a.kind=2)||decide (a.kind=3))&&decide (a.kind=b.kind)&&decide (a.oid=b.oid)&&decide (a.count=b.count)&&decide (gw
   a.rights b.rights=a.rights))=ky a b)):=by
 unfold ky bD;cases ha1:aT a
 ·simp
 cases hb1:aT b
 ·simp
 refine⟨fun h=>by simp at h,fun _=>⟨fun h=>by simp only[h,Bool.true_and,Bool.true_or],fun h=>?_⟩⟩
 rw[h];simp only[Bool.true_and,Bool.false_or]
theorem Ok:cj Tryz.prog 16 Mm:=
 mz fx fx (fun _ _=>rfl) fun a b ha hb=>aW (inl:=bn) (ann:=aP) (ae qT (ae ye an)) (Qs a b ha hb) (by kernel_rfl)
end Go.Proofs.YtghpaegglbbocaaGreat
