import Derived.Test.YtghpaegglbbocaaGreatCtBc
import Derived.Test.YtghpaegglbbocaaGreatCN
import Derived.Test.YtghpaegglbbocaaGreatSW
namespace Go.Proofs.YtghpaegglbbocaaGreat
open Go.Sx
theorem LQ (h:Int) (hh:cy .i64 h) (hq:m7 h):
 aQ IntKind.i64 (h-1)/\(∃g,yv h g/\h=h/\64=bj (g+1)/\h-1=h-1/\0=g)/\∀(g:Int),yv h g->(decide (g<h-1)=true->aQ IntKind.i64 (bj (g+1)*16)/\aQ
  IntKind.i64 (g+1)/\∃g',yv h g'/\(h-g').toNat<(h-g).toNat/\h=h/\bj (g+1)*16=bj (g'+1)/\h-1=h-1/\g+1=g')/\(decide (g<h-1)=false->bj (g+1)=
  bj h):=by
 obtain⟨q0,q9⟩:=hq;refine⟨by simp only[aQ,cy]at *;omega,⟨0,⟨by omega,.inl rfl⟩,rfl,(rk (by omega)).symm,rfl,rfl⟩,fun g hg=>⟨fun hlt=>?_,fun hge=>?_⟩⟩
 ·obtain⟨g0,g1⟩:=hg;have hlt:=Tl hlt;have hb:=uq (show g+1<=9 by omega)
  exact⟨by simp only[aQ,cy];omega,by simp only[aQ,cy];omega,g+1,⟨by omega,.inr (by omega)⟩,by omega,rfl,DZ (by omega),rfl,rfl⟩
 ·obtain⟨g0,g1⟩:=hg;have hge:=Tk hge;rcases g1 with rfl|g1
  ·rw[rk (by omega),rk (by omega)]
  ·rw[show g+1=h by omega]
theorem CJ:cW Tryz.prog 209 OB:=
 kY (aY j6 fz) (fun _=>rfl) fun a hq hok=>by
  obtain⟨h,_⟩:=a;exact bh (inl:=bM) (ann:=(me [(209,3,PX [0,2,5] (fun g=> [(3,.it .i64 (bj (A0 g 1))),(6,.it .i64 g)]) (yv h) h)])) ak (LQ h hok.1 hq) (by kernel_rfl)
end Go.Proofs.YtghpaegglbbocaaGreat
