import Derived.Test.YtlblcfaclmpekaaGreatCtBc
import Derived.Test.YtlblcfaclmpekaaGreatCN
import Derived.Test.YtlblcfaclmpekaaGreatSW
namespace Go.Proofs.YtlblcfaclmpekaaGreat
open Go.Sx
theorem Om (h:Int) (hh:cj .i64 h) (hq:nT h):
 aM IntKind.i64 (h-1)/\(∃g,z6 h g/\h=h/\64=bw (g+1)/\h-1=h-1/\0=g)/\∀(g:Int),z6 h g->(decide (g<h-1)=true->aM IntKind.i64 (bw (g+1)*16)/\aM
  IntKind.i64 (g+1)/\∃g',z6 h g'/\(h-g').toNat<(h-g).toNat/\h=h/\bw (g+1)*16=bw (g'+1)/\h-1=h-1/\g+1=g')/\(decide (g<h-1)=false->bw (g+1)=
  bw h):=by
 obtain⟨q0,q9⟩:=hq;refine⟨by simp only[aM,cj]at *;omega,⟨0,⟨by omega,.inl rfl⟩,rfl,(sq (by omega)).symm,rfl,rfl⟩,fun g hg=>⟨fun hlt=>?_,fun hge=>?_⟩⟩
 ·obtain⟨g0,g1⟩:=hg;have hlt:=VK hlt;have hb:=vg (show g+1<=9 by omega)
  exact⟨by simp only[aM,cj];omega,by simp only[aM,cj];omega,g+1,⟨by omega,.inr (by omega)⟩,by omega,rfl,FE (by omega),rfl,rfl⟩
 ·obtain⟨g0,g1⟩:=hg;have hge:=VJ hge;rcases g1 with rfl|g1
  ·rw[sq (by omega),sq (by omega)]
  ·rw[show g+1=h by omega]
theorem EI:dC Tryz.prog 248 QJ:=
 jY (aN fN dX) (fun _=>rfl) fun a hq hok=>by
  obtain⟨h,_⟩:=a;exact bu (inl:=ca) (ann:=(kV [(248,3,T5 [0,2,5] (fun g=> [(3,.it .i64 (bw (AM g 1))),(6,.it .i64 g)]) (z6 h) h)])) au (Om h hok.1 hq) (by kernel_rfl)
end Go.Proofs.YtlblcfaclmpekaaGreat
