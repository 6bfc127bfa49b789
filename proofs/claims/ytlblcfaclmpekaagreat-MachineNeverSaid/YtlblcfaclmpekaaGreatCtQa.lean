import Derived.Test.YtlblcfaclmpekaaGreatCtWd
import Derived.Test.YtlblcfaclmpekaaGreatKS
import Derived.Test.YtlblcfaclmpekaaGreatSQ
import Derived.Test.YtlblcfaclmpekaaGreatCV
namespace Go.Proofs.YtlblcfaclmpekaaGreat
open Go.Sx
theorem NO (i:Int):
 true=true/\((!decide ((au [] i).kind=1)|| !decide (((au [] i).slots.at 2).kind=1)||decide (((au [] i).slots.at 2).value<0)||decide (2<((au [] i).slots.at 2).value))=true->
  0=gF [] i/\false=di [] i)/\((!decide ((au [] i).kind=1)|| !decide (((au [] i).slots.at 2).kind=1)||decide (((au [] i).slots.at 2).value<0)||decide (2<((au []
  i).slots.at 2).value))=false->((au [] i).slots.at 2).value=gF [] i/\true=di [] i):=by
 have e:=Ae (au [] i);rw[e];refine⟨rfl,fun h=>?_,fun h=>?_⟩
 ·have h:di [] i=false:=by unfold di;simpa using h
  exact⟨(xp h).2.symm,h.symm⟩
 ·have h:di [] i=true:=by unfold di;simpa using h
  exact⟨(lz h).2.symm,h.symm⟩
theorem S3 (L:List Sx.Obj) (i:Int):
 true=true/\((!decide ((au L i).kind=1)|| !decide (((au L i).slots.at 2).kind=1)||decide (((au L i).slots.at 2).value<0)||decide (2<((au L i).slots.at 2).value))=true->0=
  gF L i/\false=di L i)/\((!decide ((au L i).kind=1)|| !decide (((au L i).slots.at 2).kind=1)||decide (((au L i).slots.at 2).value<0)||decide (2<((au L i).slots.at
  2).value))=false->((au L i).slots.at 2).value=gF L i/\true=di L i):=by
 have e:=Ae (au L i);rw[e];refine⟨rfl,fun h=>?_,fun h=>?_⟩
 ·have h:di L i=false:=by unfold di;simpa using h
  exact⟨(xp h).2.symm,h.symm⟩
 ·have h:di L i=true:=by unfold di;simpa using h
  exact⟨(lz h).2.symm,h.symm⟩
theorem pD:cV Tryz.prog 62 Ts:=
 jT (aM qQ TD) (fun _=>rfl) fun a hq hok=>by
  obtain⟨S,i,_⟩:=a;cases S with
  |none=>exact bd (inl:=(fun f=>f==88)) (ann:=aO) (ab eG an) (NO i) (by kernel_rfl)
  |some L=>exact bd (inl:=(fun f=>f==88)) (ann:=aO) (ab eG an) (S3 L i) (by kernel_rfl)
theorem NU (i st:Int):
 true=true/\((!decide (0<ah []))=true->1=ey [] i st)/\((!decide (0<ah []))=false->true=true/\((!decide ((au [] i).kind=1))=true->230=ey [] i st)/\((!decide
  ((au [] i).kind=1))=false->true=true/\((!(decide (0<=st)&&decide (st<=2)))=true->2=ey [] i st)/\((!(decide (0<=st)&&decide (st<=2)))=false->true=true/\true=true/\
  ei [] i (Obj.mk (au [] i).kind (au [] i).count (au [] i).calls ((au [] i).slots.put 2 (Key.mk 1 void.oid void.count void.call void.rights st)) (au [] i).bytes)=ey [] i st))):=by
 exact⟨rfl,fun h=>rfl,fun h=>absurd h (by decide)⟩
theorem O6 (i st:Int):
 true=true/\((!decide (0<ah []))=true->1=ey [] i st)/\((!decide (0<ah []))=false->true=true/\((!decide ((au [] i).kind=1))=true->230=ey [] i st)/\((!decide
  ((au [] i).kind=1))=false->true=true/\((!(decide (0<=st)&&decide (st<=2)))=true->2=ey [] i st)/\((!(decide (0<=st)&&decide (st<=2)))=false->true=true/\true=true/\
  False))):=by
 exact⟨rfl,fun h=>rfl,fun h=>absurd h (by decide)⟩
theorem Sd (L:List Sx.Obj) (i st:Int) (hL:aq L):
 true=true/\((!decide (0<ah L))=true->1=ey L i st/\L=gZ L i st)/\((!decide (0<ah L))=false->true=true/\((!decide ((au L i).kind=1))=true->230=ey L i st/\
  L=gZ L i st)/\((!decide ((au L i).kind=1))=false->true=true/\((!(decide (0<=st)&&decide (st<=2)))=true->2=ey L i st/\L=gZ L i st)/\((!(decide (0<=st)&&decide (st
  <=2)))=false->true=true/\true=true/\ei L i (Obj.mk (au L i).kind (au L i).count (au L i).calls ((au L i).slots.put 2 (Key.mk 1 void.oid void.count void.call void.rights st))
  (au L i).bytes)=ey L i st/\bN L i (Obj.mk (au L i).kind (au L i).count (au L i).calls ((au L i).slots.put 2 (Key.mk 1 void.oid void.count void.call void.rights st)) (au L
  i).bytes)=gZ L i st))):=by
 have hq:∀b,(!decide (0<ah L))=b->(b=true->ak L=0)/\(b=false->ak L≠0):=fun b hb=>by
  subst hb;refine⟨fun h=>?_,fun h=>?_⟩
  ·have h1:¬0<ah L:=by simpa using h
   unfold ah at h1;omega
  ·have h1:0<ah L:=by simpa using h
   unfold ah at h1;omega
 refine⟨rfl,fun h=>CW (Uw ((hq _ h).1 rfl)) (by omega),fun h=>⟨rfl,fun h2=>?_,fun h2=>⟨rfl,fun h3=>?_,fun h3=>⟨rfl,rfl,?_⟩⟩⟩⟩
 ·exact CW (OM ((hq _ h).2 rfl) (by simpa using h2)) (by omega)
 ·exact CW (Ub ((hq _ h).2 rfl) (by simpa using h2) (by simp only[Bool.not_eq_true',Bool.and_eq_false_iff,decide_eq_false_iff_not]at h3;omega)) (by omega)
 ·have hE:ey L i st=0:=QA ((hq _ h).2 rfl) (by simpa using h2) (by simp only[Bool.not_eq_false',Xo,Xp]at h3;omega)
  rw[hE];exact LM hL hE
theorem QQ (L:List Sx.Obj) (i st:Int) (hL:aq L):aj Tryz.prog 64 [.lp 0 0,.it .i64 i,.it .i64 st] [.store tS eS L] (AA (.it .i64 (ey L i st)) (gZ L i st)) (fun _ _=>False):=
 aK (inl:=(fun f=>f==91||f==98)) (ann:=aO) (ab aY (ab eG an)) (aC cw az) (cW j5) (Sd L i st hL) (by kernel_rfl)
theorem Kt:oU Tryz.prog 64 Un:=
 lW (m:=fun x=>V3.cn x 0) (nM RV (fun _=>rfl)) (fun _=>rfl) (fun _ _=>rfl) (fun x=>aK (inl:=(fun f=>f==91||f==98)) (ann:=aO) (ab aY (ab eG an)) (aC cw az) (cW j5) (NU x.1 x.2.1) (by kernel_rfl)) (fun x=>aK (inl:=(fun f=>f==91||f==98)) (ann:=aO) (ab aY (ab eG an)) (aC cw az) (cW j5) (O6 x.1 x.2.1) (by kernel_rfl)) fun L x hL _ _=>QQ L x.1 x.2.1 hL
end Go.Proofs.YtlblcfaclmpekaaGreat
