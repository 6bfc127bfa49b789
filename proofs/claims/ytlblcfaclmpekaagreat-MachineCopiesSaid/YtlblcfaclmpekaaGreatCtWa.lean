import Derived.Test.YtlblcfaclmpekaaGreatCtBc
import Derived.Test.YtlblcfaclmpekaaGreatCN
import Derived.Test.YtlblcfaclmpekaaGreatSW
namespace Go.Proofs.YtlblcfaclmpekaaGreat
open Go.Sx
theorem MX (h:Int) (hh:cj .i64 h) (hq:nR h):
 aP IntKind.i64 (h-1)/\(∃g,y8 h g/\h=h/\64=bz (g+1)/\h-1=h-1/\0=g)/\∀(g:Int),y8 h g->(decide (g<h-1)=true->aP IntKind.i64 (bz (g+1)*16)/\aP
  IntKind.i64 (g+1)/\∃g',y8 h g'/\(h-g').toNat<(h-g).toNat/\h=h/\bz (g+1)*16=bz (g'+1)/\h-1=h-1/\g+1=g')/\(decide (g<h-1)=false->bz (g+1)=
  bz h):=by
 obtain⟨q0,q9⟩:=hq;refine⟨by simp only[aP,cj]at *;omega,⟨0,⟨by omega,.inl rfl⟩,rfl,(sL (by omega)).symm,rfl,rfl⟩,fun g hg=>⟨fun hlt=>?_,fun hge=>?_⟩⟩
 ·obtain⟨g0,g1⟩:=hg;have hlt:=VO hlt;have hb:=vd (show g+1<=9 by omega)
  exact⟨by simp only[aP,cj];omega,by simp only[aP,cj];omega,g+1,⟨by omega,.inr (by omega)⟩,by omega,rfl,Fl (by omega),rfl,rfl⟩
 ·obtain⟨g0,g1⟩:=hg;have hge:=VN hge;rcases g1 with rfl|g1
  ·rw[sL (by omega),sL (by omega)]
  ·rw[show g+1=h by omega]
theorem DH:dD Tryz.prog 248 Pr:=
 jH (aQ fP dU) (fun _=>rfl) fun a hq hok=>by
  obtain⟨h,_⟩:=a;exact bx (inl:=ca) (ann:=(lr [(248,3,TV [0,2,5] (fun g=> [(3,.it .i64 (bz (AM g 1))),(6,.it .i64 g)]) (y8 h) h)])) ay (MX h hok.1 hq) (by kernel_rfl)
end Go.Proofs.YtlblcfaclmpekaaGreat
