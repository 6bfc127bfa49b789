import Derived.Test.YtghpaegglbbocaaGreatCtQc
import Derived.Test.YtghpaegglbbocaaGreatCtBc
import Derived.Test.YtghpaegglbbocaaGreatSpR
namespace Go.Proofs.YtghpaegglbbocaaGreat
open Go.Sx
set_option maxRecDepth 100000
theorem Ns (k:Key) (r:Int) (hq:gz k r):
 ((!aT k||decide (r<0)||decide (7<r))=true->False)/\((!aT k||decide (r<0)||decide (7<r))=false->Key.mk k.kind k.oid k.count k.call (bc BinOp.or IntKind.i64 k.rights
   (bc BinOp.and IntKind.i64 r (eK k.kind))) k.value=iz k r):=by
 obtain⟨hk,h0,h7⟩:=hq;have hr:=gT hk;refine⟨fun h=>?_,fun _=>?_⟩
 ·simp[hk]at h;omega
 obtain⟨kind,oid,count,call,rights,value⟩:=k;simp only at hr⊢;unfold iz cM;by_cases h2:kind=2
 ·subst h2;have:=MM (a:=rights) (r:=r) (by have:eK 2=7:=rfl;omega) ⟨h0,h7⟩
  simp only[if_true,show eK 2=7 from rfl,this]
 ·by_cases h3:kind=3
  ·subst h3;have:=Np (a:=rights) (r:=r) (by have:eK 3=1:=rfl;omega) ⟨h0,h7⟩
   simp only[show¬(3:Int)=2 by omega,if_false,if_true,show eK 3=1 from rfl,this]
  ·have hm:eK kind=0:=by unfold eK;simp[h2,h3]
   have hz:rights=0:=by omega
   subst hz;simp only[h2,h3,if_false,hm,IX ⟨h0,h7⟩]
theorem C9:ck Tryz.prog 140 UF:=
 eW (aJ gQ (aJ fm cF)) (fun _=>rfl) fun a hq hok=>by
  obtain⟨k,r,_⟩:=a;exact aV (inl:=bp) (ann:=aP) (ab xn ak) (Ns k r hq) (by kernel_rfl)
theorem Ma (k:Key) (r:Int) (hq:gz k r):
 (decide (k.kind=2)=true->Key.mk k.kind k.oid k.count k.call (gw k.rights r) k.value=iz k r)/\(decide (k.kind=2)=false->(decide (k.kind=3)=true->(nm 2/\aG IntKind.i64
  (r.tmod 2))/\Key.mk k.kind k.oid k.count k.call (gw k.rights (r.tmod 2)) k.value=iz k r)/\(decide (k.kind=3)=false->k=iz k r)):=by
 refine⟨fun h=>?_,fun h=>⟨fun h'=>⟨⟨by unfold nm;omega,nO _⟩,?_⟩,fun h'=>?_⟩⟩
 ·unfold iz;rw[Yq (Yn h)];rfl
 ·unfold iz;rw[Yp (Ym h),Yq (Yn h')];rfl
 ·unfold iz;rw[Yp (Ym h),Yp (Ym h')]
theorem B9:ck Tryz.prog 116 QY:=
 eW (aJ gQ (aJ fm cF)) (fun _=>rfl) fun a hq hok=>by
  obtain⟨k,r,_⟩:=a;exact aV (inl:=bp) (ann:=aP) (ab xp ak) (Ma k r hq) (by kernel_rfl)
theorem PM (a b:Key) (ha:a.wf) (hb:b.wf):
 ((!aT a|| !aT b)=true->false=ku a b)/\((!aT a|| !aT b)=false->((decide (a.kind=0)||tR a b)=true->true=ku a b)/\((decide (a.kind=0)||tR a b)=
   false->(oa a.kind&&decide (a.kind=b.kind)&&decide (a.oid=b.oid)&&decide (a.count=b.count)&&decide (bc BinOp.andNot IntKind.i64 b.rights a.rights=0))=ku a b)):=by
 unfold ku;cases ha1:aT a
 ·simp
 cases hb1:aT b
 ·simp
 have hra:=gT ha1;have hrb:=gT hb1;refine⟨fun h=>by simp at h,fun _=>⟨fun h=>by simp only[h,Bool.true_and,Bool.true_or],fun h=>?_⟩⟩
 rw[h];simp only[Bool.true_and,Bool.false_or];by_cases hk:a.kind=b.kind
 ·by_cases h2:a.kind=2
  ·have m1:eK a.kind=7:=by rw[h2];rfl
   have m2:eK b.kind=7:=by rw[<-hk,h2];rfl
   rw[zK (by omega) (by omega)]
   simp[oa,h2]
  ·by_cases h3:a.kind=3
   ·have m1:eK a.kind=1:=by rw[h3];rfl
    have m2:eK b.kind=1:=by rw[<-hk,h3];rfl
    rw[zK (by omega) (by omega)]
    simp[oa,h3]
   ·simp[oa,h2,h3]
 ·simp[hk]
theorem Ps:ck Tryz.prog 103 IW:=
 mj fz fz (fun _ _=>rfl) fun a b ha hb=>aV (inl:=bp) (ann:=aP) (ab xn ak) (PM a b ha hb) (by kernel_rfl)
theorem Qm (a b:Key) (ha:a.wf) (hb:b.wf):
 ((!decide (bD a=0)|| !decide (bD b=0))=true->false=ku a b)/\((!decide (bD a=0)|| !decide (bD b=0))=false->((decide (a.kind=0)||tR a b)=true->true=ku a
   b)/\((decide (a.kind=0)||tR a b)=false->((decide (a.kind=2)||decide (a.kind=3))&&decide (a.kind=b.kind)&&decide (a.oid=b.oid)&&decide (a.count=b.count)&&decide (gw
   a.rights b.rights=a.rights))=ku a b)):=by
 unfold ku bD;cases ha1:aT a
 ·simp
 cases hb1:aT b
 ·simp
 refine⟨fun h=>by simp at h,fun _=>⟨fun h=>by simp only[h,Bool.true_and,Bool.true_or],fun h=>?_⟩⟩
 rw[h];simp only[Bool.true_and,Bool.false_or]
theorem OP:ck Tryz.prog 16 IW:=
 mj fz fz (fun _ _=>rfl) fun a b ha hb=>aV (inl:=bp) (ann:=aP) (ab rk (ab xp ak)) (Qm a b ha hb) (by kernel_rfl)
end Go.Proofs.YtghpaegglbbocaaGreat
