import Derived.Test.YtlblcfaclmpekaaGreatCtWd
import Derived.Test.YtlblcfaclmpekaaGreatKS
import Derived.Test.YtlblcfaclmpekaaGreatSQ
import Derived.Test.YtlblcfaclmpekaaGreatCV
namespace Go.Proofs.YtlblcfaclmpekaaGreat
open Go.Sx
theorem LY (i:Int):
 true=true/\((!decide ((az [] i).kind=1)|| !decide (((az [] i).slots.at 2).kind=1)||decide (((az [] i).slots.at 2).value<0)||decide (2<((az [] i).slots.at 2).value))=true->
  0=gn [] i/\false=cR [] i)/\((!decide ((az [] i).kind=1)|| !decide (((az [] i).slots.at 2).kind=1)||decide (((az [] i).slots.at 2).value<0)||decide (2<((az []
  i).slots.at 2).value))=false->((az [] i).slots.at 2).value=gn [] i/\true=cR [] i):=by
 have e:=zQ (az [] i);rw[e];refine⟨rfl,fun h=>?_,fun h=>?_⟩
 ·have h:cR [] i=false:=by unfold cR;simpa using h
  exact⟨(ve h).2.symm,h.symm⟩
 ·have h:cR [] i=true:=by unfold cR;simpa using h
  exact⟨(kS h).2.symm,h.symm⟩
theorem PO (L:List Sx.Obj) (i:Int):
 true=true/\((!decide ((az L i).kind=1)|| !decide (((az L i).slots.at 2).kind=1)||decide (((az L i).slots.at 2).value<0)||decide (2<((az L i).slots.at 2).value))=true->0=
  gn L i/\false=cR L i)/\((!decide ((az L i).kind=1)|| !decide (((az L i).slots.at 2).kind=1)||decide (((az L i).slots.at 2).value<0)||decide (2<((az L i).slots.at
  2).value))=false->((az L i).slots.at 2).value=gn L i/\true=cR L i):=by
 have e:=zQ (az L i);rw[e];refine⟨rfl,fun h=>?_,fun h=>?_⟩
 ·have h:cR L i=false:=by unfold cR;simpa using h
  exact⟨(ve h).2.symm,h.symm⟩
 ·have h:cR L i=true:=by unfold cR;simpa using h
  exact⟨(kS h).2.symm,h.symm⟩
theorem oX:dA Tryz.prog 62 RQ:=
 jB (aK qs Rq) (fun _=>rfl) fun a hq hok=>by
  obtain⟨S,i,_⟩:=a;cases S with
  |none=>exact bx (inl:=(fun f=>f==88)) (ann:=aQ) (ab ez aq) (LY i) (by kernel_rfl)
  |some L=>exact bx (inl:=(fun f=>f==88)) (ann:=aQ) (ab ez aq) (PO L i) (by kernel_rfl)
theorem Ml (i st:Int):
 true=true/\((!decide (0<ah []))=true->1=eo [] i st)/\((!decide (0<ah []))=false->true=true/\((!decide ((az [] i).kind=1))=true->230=eo [] i st)/\((!decide
  ((az [] i).kind=1))=false->true=true/\((!(decide (0<=st)&&decide (st<=2)))=true->2=eo [] i st)/\((!(decide (0<=st)&&decide (st<=2)))=false->true=true/\true=true/\
  eH [] i (Obj.mk (az [] i).kind (az [] i).count (az [] i).calls ((az [] i).slots.put 2 (Key.mk 1 void.oid void.count void.call void.rights st)) (az [] i).bytes)=eo [] i st))):=by
 exact⟨rfl,fun h=>rfl,fun h=>absurd h (by decide)⟩
theorem MS (i st:Int):
 true=true/\((!decide (0<ah []))=true->1=eo [] i st)/\((!decide (0<ah []))=false->true=true/\((!decide ((az [] i).kind=1))=true->230=eo [] i st)/\((!decide
  ((az [] i).kind=1))=false->true=true/\((!(decide (0<=st)&&decide (st<=2)))=true->2=eo [] i st)/\((!(decide (0<=st)&&decide (st<=2)))=false->true=true/\true=true/\
  False))):=by
 exact⟨rfl,fun h=>rfl,fun h=>absurd h (by decide)⟩
theorem QF (L:List Sx.Obj) (i st:Int) (hL:an L):
 true=true/\((!decide (0<ah L))=true->1=eo L i st/\L=hU L i st)/\((!decide (0<ah L))=false->true=true/\((!decide ((az L i).kind=1))=true->230=eo L i st/\
  L=hU L i st)/\((!decide ((az L i).kind=1))=false->true=true/\((!(decide (0<=st)&&decide (st<=2)))=true->2=eo L i st/\L=hU L i st)/\((!(decide (0<=st)&&decide (st
  <=2)))=false->true=true/\true=true/\eH L i (Obj.mk (az L i).kind (az L i).count (az L i).calls ((az L i).slots.put 2 (Key.mk 1 void.oid void.count void.call void.rights st))
  (az L i).bytes)=eo L i st/\bO L i (Obj.mk (az L i).kind (az L i).count (az L i).calls ((az L i).slots.put 2 (Key.mk 1 void.oid void.count void.call void.rights st)) (az L
  i).bytes)=hU L i st))):=by
 have hq:∀b,(!decide (0<ah L))=b->(b=true->ar L=0)/\(b=false->ar L≠0):=fun b hb=>by
  subst hb;refine⟨fun h=>?_,fun h=>?_⟩
  ·have h1:¬0<ah L:=by simpa using h
   unfold ah at h1;omega
  ·have h1:0<ah L:=by simpa using h
   unfold ah at h1;omega
 refine⟨rfl,fun h=>Cb (Sa ((hq _ h).1 rfl)) (by omega),fun h=>⟨rfl,fun h2=>?_,fun h2=>⟨rfl,fun h3=>?_,fun h3=>⟨rfl,rfl,?_⟩⟩⟩⟩
 ·exact Cb (Nn ((hq _ h).2 rfl) (by simpa using h2)) (by omega)
 ·exact Cb (R4 ((hq _ h).2 rfl) (by simpa using h2) (by simp only[Bool.not_eq_true',Bool.and_eq_false_iff,decide_eq_false_iff_not]at h3;omega)) (by omega)
 ·have hE:eo L i st=0:=Oh ((hq _ h).2 rfl) (by simpa using h2) (by simp only[Bool.not_eq_false',US,UT]at h3;omega)
  rw[hE];exact Hc hL hE
theorem Qg (L:List Sx.Obj) (i st:Int) (hL:an L):aj Tryz.prog 64 [.lp 0 0,.it .i64 i,.it .i64 st] [.store tS eS L] (yZ (.it .i64 (eo L i st)) (hU L i st)) (fun _ _=>False):=
 aJ (inl:=(fun f=>f==91||f==98)) (ann:=aQ) (ab aW (ab ez aq)) (aB bY ay) (cN jA) (QF L i st hL) (by kernel_rfl)
theorem HU:p5 Tryz.prog 64 Sq:=
 lg (m:=fun x=>Tj.cn x 0) (nU QL (fun _=>rfl)) (fun _=>rfl) (fun _ _=>rfl) (fun x=>aJ (inl:=(fun f=>f==91||f==98)) (ann:=aQ) (ab aW (ab ez aq)) (aB bY ay) (cN jA) (Ml x.1 x.2.1) (by kernel_rfl)) (fun x=>aJ (inl:=(fun f=>f==91||f==98)) (ann:=aQ) (ab aW (ab ez aq)) (aB bY ay) (cN jA) (MS x.1 x.2.1) (by kernel_rfl)) fun L x hL _ _=>Qg L x.1 x.2.1 hL
end Go.Proofs.YtlblcfaclmpekaaGreat
