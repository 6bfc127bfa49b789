import Derived.Test.YtlblcfaclmpekaaGreatCtBc
import Derived.Test.YtlblcfaclmpekaaGreatCN
import Derived.Test.YtlblcfaclmpekaaGreatSW
namespace Go.Proofs.YtlblcfaclmpekaaGreat
open Go.Sx
theorem My (h:Int) (hh:b7 .i64 h) (hq:nk h):
 aL IntKind.i64 (h-1)/\(∃g,zW h g/\h=h/\64=bk (g+1)/\h-1=h-1/\0=g)/\∀(g:Int),zW h g->(decide (g<h-1)=true->aL IntKind.i64 (bk (g+1)*16)/\aL
  IntKind.i64 (g+1)/\∃g',zW h g'/\(h-g').toNat<(h-g).toNat/\h=h/\bk (g+1)*16=bk (g'+1)/\h-1=h-1/\g+1=g')/\(decide (g<h-1)=false->bk (g+1)=
  bk h):=by
 obtain⟨q0,q9⟩:=hq;refine⟨by simp only[aL,b7]at *;omega,⟨0,⟨by omega,.inl rfl⟩,rfl,(rG (by omega)).symm,rfl,rfl⟩,fun g hg=>⟨fun hlt=>?_,fun hge=>?_⟩⟩
 ·obtain⟨g0,g1⟩:=hg;have hlt:=UX hlt;have hb:=u4 (show g+1<=9 by omega)
  exact⟨by simp only[aL,b7];omega,by simp only[aL,b7];omega,g+1,⟨by omega,.inr (by omega)⟩,by omega,rfl,EX (by omega),rfl,rfl⟩
 ·obtain⟨g0,g1⟩:=hg;have hge:=UW hge;rcases g1 with rfl|g1
  ·rw[rG (by omega),rG (by omega)]
  ·rw[show g+1=h by omega]
theorem DJ:dA Tryz.prog 248 P8:=
 jB (aK fE dP) (fun _=>rfl) fun a hq hok=>by
  obtain⟨h,_⟩:=a;exact bx (inl:=cw) (ann:=(kW [(248,3,SX [0,2,5] (fun g=> [(3,.it .i64 (bk (Ai g 1))),(6,.it .i64 g)]) (zW h) h)])) aq (My h hok.1 hq) (by kernel_rfl)
end Go.Proofs.YtlblcfaclmpekaaGreat
