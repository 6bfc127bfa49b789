import Derived.Test.YtghpaegglbbocaaGreatCtQc
import Derived.Test.YtghpaegglbbocaaGreatCtBc
import Derived.Test.YtghpaegglbbocaaGreatSpR
set_option linter.unusedSimpArgs false
set_option linter.unusedVariables false
namespace Go.Proofs.YtghpaegglbbocaaGreat
open Go.Sx
set_option maxRecDepth 100000
theorem MT (k:Key) (r:Int) (hq:gz k r):
 ((!aT k||decide (r<0)||decide (7<r))=true->False)/\((!aT k||decide (r<0)||decide (7<r))=false->Key.mk k.kind k.oid k.count k.call (bd BinOp.or IntKind.i64 k.rights
   (bd BinOp.and IntKind.i64 r (eP k.kind))) k.value=iB k r):=by
 obtain⟨hk,h0,h7⟩:=hq;have hr:=g8 hk;refine⟨fun h=>?_,fun _=>?_⟩
 ·simp[hk]at h;omega
 obtain⟨kind,oid,count,call,rights,value⟩:=k;simp only at hr⊢;unfold iB cM;by_cases h2:kind=2
 ·subst h2;have:=Nj (a:=rights) (r:=r) (by have:eP 2=7:=rfl;omega) ⟨h0,h7⟩
  simp only[if_true,show eP 2=7 from rfl,this]
 ·by_cases h3:kind=3
  ·subst h3;have:=K4 (a:=rights) (r:=r) (by have:eP 3=1:=rfl;omega) ⟨h0,h7⟩
   simp only[show¬(3:Int)=2 by omega,if_false,if_true,show eP 3=1 from rfl,this]
  ·have hm:eP kind=0:=by unfold eP;simp[h2,h3]
   have hz:rights=0:=by omega
   subst hz;simp only[h2,h3,if_false,hm,Jw ⟨h0,h7⟩]
theorem CL:ck Tryz.prog 140 TE:=
 eO (aJ gR (aJ ft cF)) (fun _=>rfl) fun a hq hok=>by
  obtain⟨k,r,_⟩:=a;exact aV (inl:=bn) (ann:=aP) (ab yI ak) (MT k r hq) (by kernel_rfl)
theorem Mm (k:Key) (r:Int) (hq:gz k r):
 (decide (k.kind=2)=true->Key.mk k.kind k.oid k.count k.call (gx k.rights r) k.value=iB k r)/\(decide (k.kind=2)=false->(decide (k.kind=3)=true->(nf 2/\aG IntKind.i64
  (r.tmod 2))/\Key.mk k.kind k.oid k.count k.call (gx k.rights (r.tmod 2)) k.value=iB k r)/\(decide (k.kind=3)=false->k=iB k r)):=by
 refine⟨fun h=>?_,fun h=>⟨fun h'=>⟨⟨by unfold nf;omega,nV _⟩,?_⟩,fun h'=>?_⟩⟩
 ·unfold iB;rw[Yv (Ys h)];rfl
 ·unfold iB;rw[Yu (Yr h),Yv (Ys h')];rfl
 ·unfold iB;rw[Yu (Yr h),Yu (Yr h')]
theorem Dk:ck Tryz.prog 116 Om:=
 eO (aJ gR (aJ ft cF)) (fun _=>rfl) fun a hq hok=>by
  obtain⟨k,r,_⟩:=a;exact aV (inl:=bn) (ann:=aP) (ab xY ak) (Mm k r hq) (by kernel_rfl)
theorem Ok (a b:Key) (ha:a.wf) (hb:b.wf):
 ((!aT a|| !aT b)=true->false=kq a b)/\((!aT a|| !aT b)=false->((decide (a.kind=0)||tL a b)=true->true=kq a b)/\((decide (a.kind=0)||tL a b)=
   false->(nU a.kind&&decide (a.kind=b.kind)&&decide (a.oid=b.oid)&&decide (a.count=b.count)&&decide (bd BinOp.andNot IntKind.i64 b.rights a.rights=0))=kq a b)):=by
 unfold kq;cases ha1:aT a
 ·simp
 cases hb1:aT b
 ·simp
 have hra:=g8 ha1;have hrb:=g8 hb1;refine⟨fun h=>by simp at h,fun _=>⟨fun h=>by simp only[h,Bool.true_and,Bool.true_or],fun h=>?_⟩⟩
 rw[h];simp only[Bool.true_and,Bool.false_or];by_cases hk:a.kind=b.kind
 ·by_cases h2:a.kind=2
  ·have m1:eP a.kind=7:=by rw[h2];rfl
   have m2:eP b.kind=7:=by rw[<-hk,h2];rfl
   rw[Ai (by omega) (by omega)]
   simp[nU,h2]
  ·by_cases h3:a.kind=3
   ·have m1:eP a.kind=1:=by rw[h3];rfl
    have m2:eP b.kind=1:=by rw[<-hk,h3];rfl
    rw[Ai (by omega) (by omega)]
    simp[nU,h3]
   ·simp[nU,h2,h3]
 ·simp[hk]
theorem PW:ck Tryz.prog 103 MN:=
 mo fy fy (fun _ _=>rfl) fun a b ha hb=>aV (inl:=bn) (ann:=aP) (ab yI ak) (Ok a b ha hb) (by kernel_rfl)
theorem OI (a b:Key) (ha:a.wf) (hb:b.wf):
 ((!decide (bD a=0)|| !decide (bD b=0))=true->false=kq a b)/\((!decide (bD a=0)|| !decide (bD b=0))=false->((decide (a.kind=0)||tL a b)=true->true=kq a
   b)/\((decide (a.kind=0)||tL a b)=false->((decide (a.kind=2)||decide (a.kind=3))&&decide (a.kind=b.kind)&&decide (a.oid=b.oid)&&decide (a.count=b.count)&&decide (gx
   a.rights b.rights=a.rights))=kq a b)):=by
 unfold kq bD;cases ha1:aT a
 ·simp
 cases hb1:aT b
 ·simp
 refine⟨fun h=>by simp at h,fun _=>⟨fun h=>by simp only[h,Bool.true_and,Bool.true_or],fun h=>?_⟩⟩
 rw[h];simp only[Bool.true_and,Bool.false_or]
theorem Qq:ck Tryz.prog 16 MN:=
 mo fy fy (fun _ _=>rfl) fun a b ha hb=>aV (inl:=bn) (ann:=aP) (ab rm (ab xY ak)) (OI a b ha hb) (by kernel_rfl)
end Go.Proofs.YtghpaegglbbocaaGreat
