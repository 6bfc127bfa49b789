import Derived.Test.YtlblcfaclmpekaaGreatCtBc
import Derived.Test.YtlblcfaclmpekaaGreatCN
import Derived.Test.YtlblcfaclmpekaaGreatSW
namespace Go.Proofs.YtlblcfaclmpekaaGreat
open Go.Sx
theorem N5 (h:Int) (hh:cg .i64 h) (hq:nU h):
 aL IntKind.i64 (h-1)/\(∃g,zT h g/\h=h/\64=bp (g+1)/\h-1=h-1/\0=g)/\∀(g:Int),zT h g->(decide (g<h-1)=true->aL IntKind.i64 (bp (g+1)*16)/\aL
  IntKind.i64 (g+1)/\∃g',zT h g'/\(h-g').toNat<(h-g).toNat/\h=h/\bp (g+1)*16=bp (g'+1)/\h-1=h-1/\g+1=g')/\(decide (g<h-1)=false->bp (g+1)=
  bp h):=by
 obtain⟨q0,q9⟩:=hq;refine⟨by simp only[aL,cg]at *;omega,⟨0,⟨by omega,.inl rfl⟩,rfl,(rX (by omega)).symm,rfl,rfl⟩,fun g hg=>⟨fun hlt=>?_,fun hge=>?_⟩⟩
 ·obtain⟨g0,g1⟩:=hg;have hlt:=Xs hlt;have hb:=vv (show g+1<=9 by omega)
  exact⟨by simp only[aL,cg];omega,by simp only[aL,cg];omega,g+1,⟨by omega,.inr (by omega)⟩,by omega,rfl,Hi (by omega),rfl,rfl⟩
 ·obtain⟨g0,g1⟩:=hg;have hge:=Xr hge;rcases g1 with rfl|g1
  ·rw[rX (by omega),rX (by omega)]
  ·rw[show g+1=h by omega]
theorem EF:cV Tryz.prog 248 Q6:=
 jT (aM fP dM) (fun _=>rfl) fun a hq hok=>by
  obtain⟨h,_⟩:=a;exact bd (inl:=bS) (ann:=(kg [(248,3,Uz [0,2,5] (fun g=> [(3,.it .i64 (bp (Cc g 1))),(6,.it .i64 g)]) (zT h) h)])) an (N5 h hok.1 hq) (by kernel_rfl)
end Go.Proofs.YtlblcfaclmpekaaGreat
