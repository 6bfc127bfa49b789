import Derived.Test.YtghpaegglbbocaaGreatCtWd
import Derived.Test.YtghpaegglbbocaaGreatKS
import Derived.Test.YtghpaegglbbocaaGreatSQ
import Derived.Test.YtghpaegglbbocaaGreatCV
namespace Go.Proofs.YtghpaegglbbocaaGreat
open Go.Sx
theorem J0 (i:Int):
 true=true/\((!decide ((aH [] i).kind=1)|| !decide (((aH [] i).slots.at 2).kind=1)||decide (((aH [] i).slots.at 2).value<0)||decide (2<((aH [] i).slots.at 2).value))=true->
  0=nK [] i/\false=iZ [] i)/\((!decide ((aH [] i).kind=1)|| !decide (((aH [] i).slots.at 2).kind=1)||decide (((aH [] i).slots.at 2).value<0)||decide (2<((aH []
  i).slots.at 2).value))=false->((aH [] i).slots.at 2).value=nK [] i/\true=iZ [] i):=by
 have e:=C8 (aH [] i);rw[e];refine⟨rfl,fun h=>?_,fun h=>?_⟩
 ·have h:iZ [] i=false:=by unfold iZ;simpa using h
  exact⟨(G1 h).2.symm,h.symm⟩
 ·have h:iZ [] i=true:=by unfold iZ;simpa using h
  exact⟨(Db h).2.symm,h.symm⟩
theorem Ov (L:List Sx.Obj) (i:Int):
 true=true/\((!decide ((aH L i).kind=1)|| !decide (((aH L i).slots.at 2).kind=1)||decide (((aH L i).slots.at 2).value<0)||decide (2<((aH L i).slots.at 2).value))=true->0=
  nK L i/\false=iZ L i)/\((!decide ((aH L i).kind=1)|| !decide (((aH L i).slots.at 2).kind=1)||decide (((aH L i).slots.at 2).value<0)||decide (2<((aH L i).slots.at
  2).value))=false->((aH L i).slots.at 2).value=nK L i/\true=iZ L i):=by
 have e:=C8 (aH L i);rw[e];refine⟨rfl,fun h=>?_,fun h=>?_⟩
 ·have h:iZ L i=false:=by unfold iZ;simpa using h
  exact⟨(G1 h).2.symm,h.symm⟩
 ·have h:iZ L i=true:=by unfold iZ;simpa using h
  exact⟨(Db h).2.symm,h.symm⟩
theorem O8:cW Tryz.prog 167 Ql:=
 kY (aY rf Qb) (fun _=>rfl) fun a hq hok=>by
  obtain⟨S,i,_⟩:=a;cases S with
  |none=>exact bh (inl:=(fun f=>f==188)) (ann:=aL) (ab fM ak) (J0 i) (by kernel_rfl)
  |some L=>exact bh (inl:=(fun f=>f==188)) (ann:=aL) (ab fM ak) (Ov L i) (by kernel_rfl)
theorem Lp (i st:Int):
 true=true/\((!decide (0<ah []))=true->1=ev [] i st)/\((!decide (0<ah []))=false->true=true/\((!decide ((aH [] i).kind=1))=true->230=ev [] i st)/\((!decide
  ((aH [] i).kind=1))=false->true=true/\((!(decide (0<=st)&&decide (st<=2)))=true->2=ev [] i st)/\((!(decide (0<=st)&&decide (st<=2)))=false->true=true/\true=true/\
  dT [] i (Obj.mk (aH [] i).kind (aH [] i).count (aH [] i).calls ((aH [] i).slots.put 2 (Key.mk 1 void.oid void.count void.call void.rights st)) (aH [] i).bytes)=ev [] i st))):=by
 exact⟨rfl,fun h=>rfl,fun h=>absurd h (by decide)⟩
theorem MB (i st:Int):
 true=true/\((!decide (0<ah []))=true->1=ev [] i st)/\((!decide (0<ah []))=false->true=true/\((!decide ((aH [] i).kind=1))=true->230=ev [] i st)/\((!decide
  ((aH [] i).kind=1))=false->true=true/\((!(decide (0<=st)&&decide (st<=2)))=true->2=ev [] i st)/\((!(decide (0<=st)&&decide (st<=2)))=false->true=true/\true=true/\
  False))):=by
 exact⟨rfl,fun h=>rfl,fun h=>absurd h (by decide)⟩
theorem Pt (L:List Sx.Obj) (i st:Int) (hL:an L):
 true=true/\((!decide (0<ah L))=true->1=ev L i st/\L=jm L i st)/\((!decide (0<ah L))=false->true=true/\((!decide ((aH L i).kind=1))=true->230=ev L i st/\
  L=jm L i st)/\((!decide ((aH L i).kind=1))=false->true=true/\((!(decide (0<=st)&&decide (st<=2)))=true->2=ev L i st/\L=jm L i st)/\((!(decide (0<=st)&&decide (st
  <=2)))=false->true=true/\true=true/\dT L i (Obj.mk (aH L i).kind (aH L i).count (aH L i).calls ((aH L i).slots.put 2 (Key.mk 1 void.oid void.count void.call void.rights st))
  (aH L i).bytes)=ev L i st/\cc L i (Obj.mk (aH L i).kind (aH L i).count (aH L i).calls ((aH L i).slots.put 2 (Key.mk 1 void.oid void.count void.call void.rights st)) (aH L
  i).bytes)=jm L i st))):=by
 have hq:∀b,(!decide (0<ah L))=b->(b=true->aE L=0)/\(b=false->aE L≠0):=fun b hb=>by
  subst hb;refine⟨fun h=>?_,fun h=>?_⟩
  ·have h1:¬0<ah L:=by simpa using h
   unfold ah at h1;omega
  ·have h1:0<ah L:=by simpa using h
   unfold ah at h1;omega
 refine⟨rfl,fun h=>Bk (Rf ((hq _ h).1 rfl)) (by omega),fun h=>⟨rfl,fun h2=>?_,fun h2=>⟨rfl,fun h3=>?_,fun h3=>⟨rfl,rfl,?_⟩⟩⟩⟩
 ·exact Bk (MI ((hq _ h).2 rfl) (by simpa using h2)) (by omega)
 ·exact Bk (QT ((hq _ h).2 rfl) (by simpa using h2) (by simp only[Bool.not_eq_true',Bool.and_eq_false_iff,decide_eq_false_iff_not]at h3;omega)) (by omega)
 ·have hE:ev L i st=0:=Qw ((hq _ h).2 rfl) (by simpa using h2) (by simp only[Bool.not_eq_false',Th,Ti]at h3;omega)
  rw[hE];exact Oy hL hE
theorem OS (L:List Sx.Obj) (i st:Int) (hL:an L):ai Tryz.prog 96 [.lp 0 0,.it .i64 i,.it .i64 st] [.store tS eS L] (zO (.it .i64 (ev L i st)) (jm L i st)) (fun _ _=>False):=
 aK (inl:=(fun f=>f==169||f==170)) (ann:=aL) (ab aX (ab fM ak)) (aG c9 aA) (dO vg) (Pt L i st hL) (by kernel_rfl)
theorem Pb:ql Tryz.prog 96 Q3:=
 lh (m:=fun x=>SG.cn x 0) (rX Ps (fun _=>rfl)) (fun _=>rfl) (fun _ _=>rfl) (fun x=>aK (inl:=(fun f=>f==169||f==170)) (ann:=aL) (ab aX (ab fM ak)) (aG c9 aA) (dO vg) (Lp x.1 x.2.1) (by kernel_rfl)) (fun x=>aK (inl:=(fun f=>f==169||f==170)) (ann:=aL) (ab aX (ab fM ak)) (aG c9 aA) (dO vg) (MB x.1 x.2.1) (by kernel_rfl)) fun L x hL _ _=>OS L x.1 x.2.1 hL
end Go.Proofs.YtghpaegglbbocaaGreat
