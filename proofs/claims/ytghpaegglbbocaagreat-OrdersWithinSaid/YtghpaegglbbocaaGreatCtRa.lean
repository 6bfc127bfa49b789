import Derived.Test.YtghpaegglbbocaaGreatCtQc
import Derived.Test.YtghpaegglbbocaaGreatCtBc
import Derived.Test.YtghpaegglbbocaaGreatSpR
set_option linter.unusedSimpArgs false
set_option linter.unusedVariables false
namespace Go.Proofs.YtghpaegglbbocaaGreat
open Go.Sx
set_option maxRecDepth 100000
theorem FR (k:Key) (r:Int) (hq:tY k r):
 ((!aB k||decide (r<0)||decide (7<r))=true->False)/\((!aB k||decide (r<0)||decide (7<r))=false->Key.mk k.kind k.oid k.count k.call (aO BinOp.or IntKind.i64 k.rights
   (aO BinOp.and IntKind.i64 r (cm k.kind))) k.value=jR k r):=by
 obtain⟨hk,h0,h7⟩:=hq;have hr:=eR hk;refine⟨fun h=>?_,fun _=>?_⟩
 ·simp[hk]at h;omega
 obtain⟨kind,oid,count,call,rights,value⟩:=k;simp only at hr⊢;unfold jR bR;by_cases h2:kind=2
 ·subst h2;have:=HN (a:=rights) (r:=r) (by have:cm 2=7:=rfl;omega) ⟨h0,h7⟩
  simp only[if_true,show cm 2=7 from rfl,this]
 ·by_cases h3:kind=3
  ·subst h3;have:=IZ (a:=rights) (r:=r) (by have:cm 3=1:=rfl;omega) ⟨h0,h7⟩
   simp only[show¬(3:Int)=2 by omega,if_false,if_true,show cm 3=1 from rfl,this]
  ·have hm:cm kind=0:=by unfold cm;simp[h2,h3]
   have hz:rights=0:=by omega
   subst hz;simp only[h2,h3,if_false,hm,Gd ⟨h0,h7⟩]
theorem zI:cW Tryz.prog 140 OE:=
 kY (aY mF (aY j6 fz)) (fun _=>rfl) fun a hq hok=>by
  obtain⟨k,r,_⟩:=a;exact bh (inl:=bM) (ann:=aL) (ab vZ ak) (FR k r hq) (by kernel_rfl)
theorem Mf (a b:Key) (ha:a.wf) (hb:b.wf):
 ((!aB a|| !aB b)=true->false=cT a b)/\((!aB a|| !aB b)=false->((decide (a.kind=0)||tF a b)=true->true=cT a b)/\((decide (a.kind=0)||tF a b)=
   false->(mb a.kind&&decide (a.kind=b.kind)&&decide (a.oid=b.oid)&&decide (a.count=b.count)&&decide (aO BinOp.andNot IntKind.i64 b.rights a.rights=0))=cT a b)):=by
 unfold cT;cases ha1:aB a
 ·simp
 cases hb1:aB b
 ·simp
 have hra:=eR ha1;have hrb:=eR hb1;refine⟨fun h=>by simp at h,fun _=>⟨fun h=>by simp only[h,Bool.true_and,Bool.true_or],fun h=>?_⟩⟩
 rw[h];simp only[Bool.true_and,Bool.false_or];by_cases hk:a.kind=b.kind
 ·by_cases h2:a.kind=2
  ·have m1:cm a.kind=7:=by rw[h2];rfl
   have m2:cm b.kind=7:=by rw[<-hk,h2];rfl
   rw[wR (by omega) (by omega)]
   simp[mb,h2]
  ·by_cases h3:a.kind=3
   ·have m1:cm a.kind=1:=by rw[h3];rfl
    have m2:cm b.kind=1:=by rw[<-hk,h3];rfl
    rw[wR (by omega) (by omega)]
    simp[mb,h3]
   ·simp[mb,h2,h3]
 ·simp[hk]
theorem L0:cW Tryz.prog 103 Ih:=
 oI fO fO (fun _ _=>rfl) fun a b ha hb=>bh (inl:=bM) (ann:=aL) (ab vZ ak) (Mf a b ha hb) (by kernel_rfl)
theorem Ly (a b:Key) (ha:a.wf) (hb:b.wf):
 ((!decide (bf a=0)|| !decide (bf b=0))=true->false=cT a b)/\((!decide (bf a=0)|| !decide (bf b=0))=false->((decide (a.kind=0)||tF a b)=true->true=cT a
   b)/\((decide (a.kind=0)||tF a b)=false->((decide (a.kind=2)||decide (a.kind=3))&&decide (a.kind=b.kind)&&decide (a.oid=b.oid)&&decide (a.count=b.count)&&decide (cx
   a.rights b.rights=a.rights))=cT a b)):=by
 unfold cT bf;cases ha1:aB a
 ·simp
 cases hb1:aB b
 ·simp
 refine⟨fun h=>by simp at h,fun _=>⟨fun h=>by simp only[h,Bool.true_and,Bool.true_or],fun h=>?_⟩⟩
 rw[h];simp only[Bool.true_and,Bool.false_or]
theorem LF:cW Tryz.prog 16 Ih:=
 oI fO fO (fun _ _=>rfl) fun a b ha hb=>bh (inl:=bM) (ann:=aL) (ab tR (ab Iz ak)) (Ly a b ha hb) (by kernel_rfl)
end Go.Proofs.YtghpaegglbbocaaGreat
