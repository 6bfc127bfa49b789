import Derived.Test.YtghpaegglbbocaaGreatCtBc
import Derived.Test.YtghpaegglbbocaaGreatCN
import Derived.Test.YtghpaegglbbocaaGreatSW
namespace Go.Proofs.YtghpaegglbbocaaGreat
open Go.Sx
theorem Ow (h:Int) (hh:cg .i64 h) (hq:jb h):
 aI IntKind.i64 (h-1)/\(∃g,Av h g/\h=h/\64=aY (g+1)/\h-1=h-1/\0=g)/\∀(g:Int),Av h g->(decide (g<h-1)=true->aI IntKind.i64 (aY (g+1)*16)/\aI
  IntKind.i64 (g+1)/\∃g',Av h g'/\(h-g').toNat<(h-g).toNat/\h=h/\aY (g+1)*16=aY (g'+1)/\h-1=h-1/\g+1=g')/\(decide (g<h-1)=false->aY (g+1)=
  aY h):=by
 obtain⟨q0,q9⟩:=hq;refine⟨by simp only[aI,cg]at *;omega,⟨0,⟨by omega,.inl rfl⟩,rfl,(mM (by omega)).symm,rfl,rfl⟩,fun g hg=>⟨fun hlt=>?_,fun hge=>?_⟩⟩
 ·obtain⟨g0,g1⟩:=hg;have hlt:=XO hlt;have hb:=qs (show g+1<=9 by omega)
  exact⟨by simp only[aI,cg];omega,by simp only[aI,cg];omega,g+1,⟨by omega,.inr (by omega)⟩,by omega,rfl,zg (by omega),rfl,rfl⟩
 ·obtain⟨g0,g1⟩:=hg;have hge:=XN hge;rcases g1 with rfl|g1
  ·rw[mM (by omega),mM (by omega)]
  ·rw[show g+1=h by omega]
theorem FD:cj Tryz.prog 209 MN:=
 eY (aJ fl cK) (fun _=>rfl) fun a hq hok=>by
  obtain⟨h,_⟩:=a;exact aW (inl:=bn) (ann:=(jC [(209,3,T2 [0,2,5] (fun g=> [(3,.it .i64 (aY (xb g 1))),(6,.it .i64 g)]) (Av h) h)])) an (Ow h hok.1 hq) (by kernel_rfl)
theorem I3 (h:Int) (hh:cg .i64 h) (hq:jb h):
 (∃g,Aq h g/\h=h/\64=aY g/\1=g)/\∀(g:Int),Aq h g->(decide (g<h)=true->aI IntKind.i64 (aY g*16)/\aI IntKind.i64 (g+1)/\∃g',Aq h g'/\(h-g').toNat<
  (h-g).toNat/\h=h/\aY g*16=aY g'/\g+1=g')/\(decide (g<h)=false->aY g=aY h):=by
 obtain⟨q0,q9⟩:=hq;refine⟨⟨1,⟨by omega,.inl rfl⟩,rfl,(mM (by omega)).symm,rfl⟩,fun g hg=>⟨fun hlt=>?_,fun hge=>?_⟩⟩
 ·obtain⟨g0,g1⟩:=hg;have hlt:=XO hlt;have hb:=qs (show g<=9 by omega)
  exact⟨by simp only[aI,cg];omega,by simp only[aI,cg];omega,g+1,⟨by omega,.inr (by omega)⟩,by omega,rfl,zg (by omega),rfl⟩
 ·obtain⟨g0,g1⟩:=hg;have hge:=XN hge;rcases g1 with rfl|g1
  ·rw[mM (by omega),mM (by omega)]
  ·rw[show g=h by omega]
theorem Kk:cj Tryz.prog 198 MN:=
 eY (aJ fl cK) (fun _=>rfl) fun a hq hok=>by
  obtain⟨h,_⟩:=a;exact aW (inl:=bn) (ann:=(jC [(198,3,T2 [0,2] (fun g=> [(3,.it .i64 (aY g)),(4,.it .i64 g)]) (Aq h) h)])) an (I3 h hok.1 hq) (by kernel_rfl)
end Go.Proofs.YtghpaegglbbocaaGreat
