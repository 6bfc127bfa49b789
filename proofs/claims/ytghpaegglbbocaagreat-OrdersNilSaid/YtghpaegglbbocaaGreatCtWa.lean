import Derived.Test.YtghpaegglbbocaaGreatCtBc
import Derived.Test.YtghpaegglbbocaaGreatCN
import Derived.Test.YtghpaegglbbocaaGreatSW
namespace Go.Proofs.YtghpaegglbbocaaGreat
open Go.Sx
theorem Ri (h:Int) (hh:bY .i64 h) (hq:ja h):
 aG IntKind.i64 (h-1)/\(∃g,Bk h g/\h=h/\64=aX (g+1)/\h-1=h-1/\0=g)/\∀(g:Int),Bk h g->(decide (g<h-1)=true->aG IntKind.i64 (aX (g+1)*16)/\aG
  IntKind.i64 (g+1)/\∃g',Bk h g'/\(h-g').toNat<(h-g).toNat/\h=h/\aX (g+1)*16=aX (g'+1)/\h-1=h-1/\g+1=g')/\(decide (g<h-1)=false->aX (g+1)=
  aX h):=by
 obtain⟨q0,q9⟩:=hq;refine⟨by simp only[aG,bY]at *;omega,⟨0,⟨by omega,.inl rfl⟩,rfl,(mo (by omega)).symm,rfl,rfl⟩,fun g hg=>⟨fun hlt=>?_,fun hge=>?_⟩⟩
 ·obtain⟨g0,g1⟩:=hg;have hlt:=Yn hlt;have hb:=qD (show g+1<=9 by omega)
  exact⟨by simp only[aG,bY];omega,by simp only[aG,bY];omega,g+1,⟨by omega,.inr (by omega)⟩,by omega,rfl,zr (by omega),rfl,rfl⟩
 ·obtain⟨g0,g1⟩:=hg;have hge:=Ym hge;rcases g1 with rfl|g1
  ·rw[mo (by omega),mo (by omega)]
  ·rw[show g+1=h by omega]
theorem Gk:ck Tryz.prog 209 Lh:=
 eP (aJ ft cF) (fun _=>rfl) fun a hq hok=>by
  obtain⟨h,_⟩:=a;exact aV (inl:=bp) (ann:=(iy [(209,3,Og [0,2,5] (fun g=> [(3,.it .i64 (aX (yw g 1))),(6,.it .i64 g)]) (Bk h) h)])) ak (Ri h hok.1 hq) (by kernel_rfl)
theorem JS (h:Int) (hh:bY .i64 h) (hq:ja h):
 (∃g,Ax h g/\h=h/\64=aX g/\1=g)/\∀(g:Int),Ax h g->(decide (g<h)=true->aG IntKind.i64 (aX g*16)/\aG IntKind.i64 (g+1)/\∃g',Ax h g'/\(h-g').toNat<
  (h-g).toNat/\h=h/\aX g*16=aX g'/\g+1=g')/\(decide (g<h)=false->aX g=aX h):=by
 obtain⟨q0,q9⟩:=hq;refine⟨⟨1,⟨by omega,.inl rfl⟩,rfl,(mo (by omega)).symm,rfl⟩,fun g hg=>⟨fun hlt=>?_,fun hge=>?_⟩⟩
 ·obtain⟨g0,g1⟩:=hg;have hlt:=Yn hlt;have hb:=qD (show g<=9 by omega)
  exact⟨by simp only[aG,bY];omega,by simp only[aG,bY];omega,g+1,⟨by omega,.inr (by omega)⟩,by omega,rfl,zr (by omega),rfl⟩
 ·obtain⟨g0,g1⟩:=hg;have hge:=Ym hge;rcases g1 with rfl|g1
  ·rw[mo (by omega),mo (by omega)]
  ·rw[show g=h by omega]
theorem Ky:ck Tryz.prog 198 Lh:=
 eP (aJ ft cF) (fun _=>rfl) fun a hq hok=>by
  obtain⟨h,_⟩:=a;exact aV (inl:=bp) (ann:=(iy [(198,3,Og [0,2] (fun g=> [(3,.it .i64 (aX g)),(4,.it .i64 g)]) (Ax h) h)])) ak (JS h hok.1 hq) (by kernel_rfl)
end Go.Proofs.YtghpaegglbbocaaGreat
