import Derived.Test.YtlblcfaclmpekaaGreatCtWd
import Derived.Test.YtlblcfaclmpekaaGreatKS
import Derived.Test.YtlblcfaclmpekaaGreatSQ
import Derived.Test.YtlblcfaclmpekaaGreatCV
namespace Go.Proofs.YtlblcfaclmpekaaGreat
open Go.Sx
theorem NC (i:Int):
 true=true/\((!decide ((aD [] i).kind=1)|| !decide (((aD [] i).slots.at 2).kind=1)||decide (((aD [] i).slots.at 2).value<0)||decide (2<((aD [] i).slots.at 2).value))=true->
  0=gz [] i/\false=de [] i)/\((!decide ((aD [] i).kind=1)|| !decide (((aD [] i).slots.at 2).kind=1)||decide (((aD [] i).slots.at 2).value<0)||decide (2<((aD []
  i).slots.at 2).value))=false->((aD [] i).slots.at 2).value=gz [] i/\true=de [] i):=by
 have e:=zP (aD [] i);rw[e];refine⟨rfl,fun h=>?_,fun h=>?_⟩
 ·have h:de [] i=false:=by unfold de;simpa using h
  exact⟨(wg h).2.symm,h.symm⟩
 ·have h:de [] i=true:=by unfold de;simpa using h
  exact⟨(lg h).2.symm,h.symm⟩
theorem P8 (L:List Sx.Obj) (i:Int):
 true=true/\((!decide ((aD L i).kind=1)|| !decide (((aD L i).slots.at 2).kind=1)||decide (((aD L i).slots.at 2).value<0)||decide (2<((aD L i).slots.at 2).value))=true->0=
  gz L i/\false=de L i)/\((!decide ((aD L i).kind=1)|| !decide (((aD L i).slots.at 2).kind=1)||decide (((aD L i).slots.at 2).value<0)||decide (2<((aD L i).slots.at
  2).value))=false->((aD L i).slots.at 2).value=gz L i/\true=de L i):=by
 have e:=zP (aD L i);rw[e];refine⟨rfl,fun h=>?_,fun h=>?_⟩
 ·have h:de L i=false:=by unfold de;simpa using h
  exact⟨(wg h).2.symm,h.symm⟩
 ·have h:de L i=true:=by unfold de;simpa using h
  exact⟨(lg h).2.symm,h.symm⟩
theorem pR:dD Tryz.prog 62 SE:=
 jH (aQ qL Su) (fun _=>rfl) fun a hq hok=>by
  obtain⟨S,i,_⟩:=a;cases S with
  |none=>exact bx (inl:=(fun f=>f==88)) (ann:=aV) (ae eM ay) (NC i) (by kernel_rfl)
  |some L=>exact bx (inl:=(fun f=>f==88)) (ann:=aV) (ae eM ay) (P8 L i) (by kernel_rfl)
theorem LL (i st:Int):
 true=true/\((!decide (0<aj []))=true->1=ey [] i st)/\((!decide (0<aj []))=false->true=true/\((!decide ((aD [] i).kind=1))=true->230=ey [] i st)/\((!decide
  ((aD [] i).kind=1))=false->true=true/\((!(decide (0<=st)&&decide (st<=2)))=true->2=ey [] i st)/\((!(decide (0<=st)&&decide (st<=2)))=false->true=true/\true=true/\
  eP [] i (Obj.mk (aD [] i).kind (aD [] i).count (aD [] i).calls ((aD [] i).slots.put 2 (Key.mk 1 void.oid void.count void.call void.rights st)) (aD [] i).bytes)=ey [] i st))):=by
 exact⟨rfl,fun h=>rfl,fun h=>absurd h (by decide)⟩
theorem MK (i st:Int):
 true=true/\((!decide (0<aj []))=true->1=ey [] i st)/\((!decide (0<aj []))=false->true=true/\((!decide ((aD [] i).kind=1))=true->230=ey [] i st)/\((!decide
  ((aD [] i).kind=1))=false->true=true/\((!(decide (0<=st)&&decide (st<=2)))=true->2=ey [] i st)/\((!(decide (0<=st)&&decide (st<=2)))=false->true=true/\true=true/\
  False))):=by
 exact⟨rfl,fun h=>rfl,fun h=>absurd h (by decide)⟩
theorem RA (L:List Sx.Obj) (i st:Int) (hL:aw L):
 true=true/\((!decide (0<aj L))=true->1=ey L i st/\L=ie L i st)/\((!decide (0<aj L))=false->true=true/\((!decide ((aD L i).kind=1))=true->230=ey L i st/\
  L=ie L i st)/\((!decide ((aD L i).kind=1))=false->true=true/\((!(decide (0<=st)&&decide (st<=2)))=true->2=ey L i st/\L=ie L i st)/\((!(decide (0<=st)&&decide (st
  <=2)))=false->true=true/\true=true/\eP L i (Obj.mk (aD L i).kind (aD L i).count (aD L i).calls ((aD L i).slots.put 2 (Key.mk 1 void.oid void.count void.call void.rights st))
  (aD L i).bytes)=ey L i st/\bP L i (Obj.mk (aD L i).kind (aD L i).count (aD L i).calls ((aD L i).slots.put 2 (Key.mk 1 void.oid void.count void.call void.rights st)) (aD L
  i).bytes)=ie L i st))):=by
 have hq:∀b,(!decide (0<aj L))=b->(b=true->an L=0)/\(b=false->an L≠0):=fun b hb=>by
  subst hb;refine⟨fun h=>?_,fun h=>?_⟩
  ·have h1:¬0<aj L:=by simpa using h
   unfold aj at h1;omega
  ·have h1:0<aj L:=by simpa using h
   unfold aj at h1;omega
 refine⟨rfl,fun h=>CG (Sv ((hq _ h).1 rfl)) (by omega),fun h=>⟨rfl,fun h2=>?_,fun h2=>⟨rfl,fun h3=>?_,fun h3=>⟨rfl,rfl,?_⟩⟩⟩⟩
 ·exact CG (Nr ((hq _ h).2 rfl) (by simpa using h2)) (by omega)
 ·exact CG (Tp ((hq _ h).2 rfl) (by simpa using h2) (by simp only[Bool.not_eq_true',Bool.and_eq_false_iff,decide_eq_false_iff_not]at h3;omega)) (by omega)
 ·have hE:ey L i st=0:=O7 ((hq _ h).2 rfl) (by simpa using h2) (by simp only[Bool.not_eq_false',VK,VL]at h3;omega)
  rw[hE];exact Jd hL hE
theorem Qg (L:List Sx.Obj) (i st:Int) (hL:aw L):ak Tryz.prog 64 [.lp 0 0,.it .i64 i,.it .i64 st] [.store tS eS L] (Ae (.it .i64 (ey L i st)) (ie L i st)) (fun _ _=>False):=
 aN (inl:=(fun f=>f==91||f==98)) (ann:=aV) (ae bd (ae eM ay)) (aF cx aB) (cY jM) (RA L i st hL) (by kernel_rfl)
theorem G2:oM Tryz.prog 64 S9:=
 lO (m:=fun x=>US.cn x 0) (nW Ps (fun _=>rfl)) (fun _=>rfl) (fun _ _=>rfl) (fun x=>aN (inl:=(fun f=>f==91||f==98)) (ann:=aV) (ae bd (ae eM ay)) (aF cx aB) (cY jM) (LL x.1 x.2.1) (by kernel_rfl)) (fun x=>aN (inl:=(fun f=>f==91||f==98)) (ann:=aV) (ae bd (ae eM ay)) (aF cx aB) (cY jM) (MK x.1 x.2.1) (by kernel_rfl)) fun L x hL _ _=>Qg L x.1 x.2.1 hL
end Go.Proofs.YtlblcfaclmpekaaGreat
