import Derived.Test.YtghpaegglbbocaaGreatCtBc
import Derived.Test.YtghpaegglbbocaaGreatCN
import Derived.Test.YtghpaegglbbocaaGreatSW
namespace Go.Proofs.YtghpaegglbbocaaGreat
open Go.Sx
theorem QX (h:Int) (hh:bY .i64 h) (hq:jj h):
 aG IntKind.i64 (h-1)/\(∃g,Bl h g/\h=h/\64=aY (g+1)/\h-1=h-1/\0=g)/\∀(g:Int),Bl h g->(decide (g<h-1)=true->aG IntKind.i64 (aY (g+1)*16)/\aG
  IntKind.i64 (g+1)/\∃g',Bl h g'/\(h-g').toNat<(h-g).toNat/\h=h/\aY (g+1)*16=aY (g'+1)/\h-1=h-1/\g+1=g')/\(decide (g<h-1)=false->aY (g+1)=
  aY h):=by
 obtain⟨q0,q9⟩:=hq;refine⟨by simp only[aG,bY]at *;omega,⟨0,⟨by omega,.inl rfl⟩,rfl,(mU (by omega)).symm,rfl,rfl⟩,fun g hg=>⟨fun hlt=>?_,fun hge=>?_⟩⟩
 ·obtain⟨g0,g1⟩:=hg;have hlt:=Yn hlt;have hb:=qY (show g+1<=9 by omega)
  exact⟨by simp only[aG,bY];omega,by simp only[aG,bY];omega,g+1,⟨by omega,.inr (by omega)⟩,by omega,rfl,z0 (by omega),rfl,rfl⟩
 ·obtain⟨g0,g1⟩:=hg;have hge:=Ym hge;rcases g1 with rfl|g1
  ·rw[mU (by omega),mU (by omega)]
  ·rw[show g+1=h by omega]
theorem Gi:ck Tryz.prog 209 Nj:=
 eW (aJ fm cF) (fun _=>rfl) fun a hq hok=>by
  obtain⟨h,_⟩:=a;exact aV (inl:=bp) (ann:=(iB [(209,3,Rk [0,2,5] (fun g=> [(3,.it .i64 (aY (yS g 1))),(6,.it .i64 g)]) (Bl h) h)])) ak (QX h hok.1 hq) (by kernel_rfl)
theorem Ky (h:Int) (hh:bY .i64 h) (hq:jj h):
 (∃g,BC h g/\h=h/\64=aY g/\1=g)/\∀(g:Int),BC h g->(decide (g<h)=true->aG IntKind.i64 (aY g*16)/\aG IntKind.i64 (g+1)/\∃g',BC h g'/\(h-g').toNat<
  (h-g).toNat/\h=h/\aY g*16=aY g'/\g+1=g')/\(decide (g<h)=false->aY g=aY h):=by
 obtain⟨q0,q9⟩:=hq;refine⟨⟨1,⟨by omega,.inl rfl⟩,rfl,(mU (by omega)).symm,rfl⟩,fun g hg=>⟨fun hlt=>?_,fun hge=>?_⟩⟩
 ·obtain⟨g0,g1⟩:=hg;have hlt:=Yn hlt;have hb:=qY (show g<=9 by omega)
  exact⟨by simp only[aG,bY];omega,by simp only[aG,bY];omega,g+1,⟨by omega,.inr (by omega)⟩,by omega,rfl,z0 (by omega),rfl⟩
 ·obtain⟨g0,g1⟩:=hg;have hge:=Ym hge;rcases g1 with rfl|g1
  ·rw[mU (by omega),mU (by omega)]
  ·rw[show g=h by omega]
theorem MQ:ck Tryz.prog 198 Nj:=
 eW (aJ fm cF) (fun _=>rfl) fun a hq hok=>by
  obtain⟨h,_⟩:=a;exact aV (inl:=bp) (ann:=(iB [(198,3,Rk [0,2] (fun g=> [(3,.it .i64 (aY g)),(4,.it .i64 g)]) (BC h) h)])) ak (Ky h hok.1 hq) (by kernel_rfl)
end Go.Proofs.YtghpaegglbbocaaGreat
