import Derived.Test.YtghpaegglbbocaaGreatCtBc
import Derived.Test.YtghpaegglbbocaaGreatCN
import Derived.Test.YtghpaegglbbocaaGreatSW
namespace Go.Proofs.YtghpaegglbbocaaGreat
open Go.Sx
theorem PA (h:Int) (hh:bY .i64 h) (hq:jb h):
 aG IntKind.i64 (h-1)/\(∃g,BA h g/\h=h/\64=aX (g+1)/\h-1=h-1/\0=g)/\∀(g:Int),BA h g->(decide (g<h-1)=true->aG IntKind.i64 (aX (g+1)*16)/\aG
  IntKind.i64 (g+1)/\∃g',BA h g'/\(h-g').toNat<(h-g).toNat/\h=h/\aX (g+1)*16=aX (g'+1)/\h-1=h-1/\g+1=g')/\(decide (g<h-1)=false->aX (g+1)=
  aX h):=by
 obtain⟨q0,q9⟩:=hq;refine⟨by simp only[aG,bY]at *;omega,⟨0,⟨by omega,.inl rfl⟩,rfl,(mM (by omega)).symm,rfl,rfl⟩,fun g hg=>⟨fun hlt=>?_,fun hge=>?_⟩⟩
 ·obtain⟨g0,g1⟩:=hg;have hlt:=Ys hlt;have hb:=qH (show g+1<=9 by omega)
  exact⟨by simp only[aG,bY];omega,by simp only[aG,bY];omega,g+1,⟨by omega,.inr (by omega)⟩,by omega,rfl,zA (by omega),rfl,rfl⟩
 ·obtain⟨g0,g1⟩:=hg;have hge:=Yr hge;rcases g1 with rfl|g1
  ·rw[mM (by omega),mM (by omega)]
  ·rw[show g+1=h by omega]
theorem Gb:ck Tryz.prog 209 L3:=
 eO (aJ ft cF) (fun _=>rfl) fun a hq hok=>by
  obtain⟨h,_⟩:=a;exact aV (inl:=bn) (ann:=(iz [(209,3,Ra [0,2,5] (fun g=> [(3,.it .i64 (aX (yy g 1))),(6,.it .i64 g)]) (BA h) h)])) ak (PA h hok.1 hq) (by kernel_rfl)
theorem Ig (h:Int) (hh:bY .i64 h) (hq:jb h):
 (∃g,Bj h g/\h=h/\64=aX g/\1=g)/\∀(g:Int),Bj h g->(decide (g<h)=true->aG IntKind.i64 (aX g*16)/\aG IntKind.i64 (g+1)/\∃g',Bj h g'/\(h-g').toNat<
  (h-g).toNat/\h=h/\aX g*16=aX g'/\g+1=g')/\(decide (g<h)=false->aX g=aX h):=by
 obtain⟨q0,q9⟩:=hq;refine⟨⟨1,⟨by omega,.inl rfl⟩,rfl,(mM (by omega)).symm,rfl⟩,fun g hg=>⟨fun hlt=>?_,fun hge=>?_⟩⟩
 ·obtain⟨g0,g1⟩:=hg;have hlt:=Ys hlt;have hb:=qH (show g<=9 by omega)
  exact⟨by simp only[aG,bY];omega,by simp only[aG,bY];omega,g+1,⟨by omega,.inr (by omega)⟩,by omega,rfl,zA (by omega),rfl⟩
 ·obtain⟨g0,g1⟩:=hg;have hge:=Yr hge;rcases g1 with rfl|g1
  ·rw[mM (by omega),mM (by omega)]
  ·rw[show g=h by omega]
theorem II:ck Tryz.prog 198 L3:=
 eO (aJ ft cF) (fun _=>rfl) fun a hq hok=>by
  obtain⟨h,_⟩:=a;exact aV (inl:=bn) (ann:=(iz [(198,3,Ra [0,2] (fun g=> [(3,.it .i64 (aX g)),(4,.it .i64 g)]) (Bj h) h)])) ak (Ig h hok.1 hq) (by kernel_rfl)
end Go.Proofs.YtghpaegglbbocaaGreat
