import Derived.Test.YtlblcfaclmpekaaGreatCtWd
import Derived.Test.YtlblcfaclmpekaaGreatKS
import Derived.Test.YtlblcfaclmpekaaGreatSQ
import Derived.Test.YtlblcfaclmpekaaGreatCV
namespace Go.Proofs.YtlblcfaclmpekaaGreat
open Go.Sx
theorem Np (i:Int):
 true=true/\((!decide ((aC [] i).kind=1)|| !decide (((aC [] i).slots.at 2).kind=1)||decide (((aC [] i).slots.at 2).value<0)||decide (2<((aC [] i).slots.at 2).value))=true->
  0=gE [] i/\false=dc [] i)/\((!decide ((aC [] i).kind=1)|| !decide (((aC [] i).slots.at 2).kind=1)||decide (((aC [] i).slots.at 2).value<0)||decide (2<((aC []
  i).slots.at 2).value))=false->((aC [] i).slots.at 2).value=gE [] i/\true=dc [] i):=by
 have e:=An (aC [] i);rw[e];refine⟨rfl,fun h=>?_,fun h=>?_⟩
 ·have h:dc [] i=false:=by unfold dc;simpa using h
  exact⟨(v8 h).2.symm,h.symm⟩
 ·have h:dc [] i=true:=by unfold dc;simpa using h
  exact⟨(lz h).2.symm,h.symm⟩
theorem Qu (L:List Sx.Obj) (i:Int):
 true=true/\((!decide ((aC L i).kind=1)|| !decide (((aC L i).slots.at 2).kind=1)||decide (((aC L i).slots.at 2).value<0)||decide (2<((aC L i).slots.at 2).value))=true->0=
  gE L i/\false=dc L i)/\((!decide ((aC L i).kind=1)|| !decide (((aC L i).slots.at 2).kind=1)||decide (((aC L i).slots.at 2).value<0)||decide (2<((aC L i).slots.at
  2).value))=false->((aC L i).slots.at 2).value=gE L i/\true=dc L i):=by
 have e:=An (aC L i);rw[e];refine⟨rfl,fun h=>?_,fun h=>?_⟩
 ·have h:dc L i=false:=by unfold dc;simpa using h
  exact⟨(v8 h).2.symm,h.symm⟩
 ·have h:dc L i=true:=by unfold dc;simpa using h
  exact⟨(lz h).2.symm,h.symm⟩
theorem pt:dC Tryz.prog 62 Tc:=
 jY (aN qK SU) (fun _=>rfl) fun a hq hok=>by
  obtain⟨S,i,_⟩:=a;cases S with
  |none=>exact bu (inl:=(fun f=>f==88)) (ann:=aR) (ab eN au) (Np i) (by kernel_rfl)
  |some L=>exact bu (inl:=(fun f=>f==88)) (ann:=aR) (ab eN au) (Qu L i) (by kernel_rfl)
theorem Ox (i st:Int):
 true=true/\((!decide (0<ah []))=true->1=eC [] i st)/\((!decide (0<ah []))=false->true=true/\((!decide ((aC [] i).kind=1))=true->230=eC [] i st)/\((!decide
  ((aC [] i).kind=1))=false->true=true/\((!(decide (0<=st)&&decide (st<=2)))=true->2=eC [] i st)/\((!(decide (0<=st)&&decide (st<=2)))=false->true=true/\true=true/\
  eU [] i (Obj.mk (aC [] i).kind (aC [] i).count (aC [] i).calls ((aC [] i).slots.put 2 (Key.mk 1 void.oid void.count void.call void.rights st)) (aC [] i).bytes)=eC [] i st))):=by
 exact⟨rfl,fun h=>rfl,fun h=>absurd h (by decide)⟩
theorem N3 (i st:Int):
 true=true/\((!decide (0<ah []))=true->1=eC [] i st)/\((!decide (0<ah []))=false->true=true/\((!decide ((aC [] i).kind=1))=true->230=eC [] i st)/\((!decide
  ((aC [] i).kind=1))=false->true=true/\((!(decide (0<=st)&&decide (st<=2)))=true->2=eC [] i st)/\((!(decide (0<=st)&&decide (st<=2)))=false->true=true/\true=true/\
  False))):=by
 exact⟨rfl,fun h=>rfl,fun h=>absurd h (by decide)⟩
theorem Q6 (L:List Sx.Obj) (i st:Int) (hL:ar L):
 true=true/\((!decide (0<ah L))=true->1=eC L i st/\L=iw L i st)/\((!decide (0<ah L))=false->true=true/\((!decide ((aC L i).kind=1))=true->230=eC L i st/\
  L=iw L i st)/\((!decide ((aC L i).kind=1))=false->true=true/\((!(decide (0<=st)&&decide (st<=2)))=true->2=eC L i st/\L=iw L i st)/\((!(decide (0<=st)&&decide (st
  <=2)))=false->true=true/\true=true/\eU L i (Obj.mk (aC L i).kind (aC L i).count (aC L i).calls ((aC L i).slots.put 2 (Key.mk 1 void.oid void.count void.call void.rights st))
  (aC L i).bytes)=eC L i st/\bO L i (Obj.mk (aC L i).kind (aC L i).count (aC L i).calls ((aC L i).slots.put 2 (Key.mk 1 void.oid void.count void.call void.rights st)) (aC L
  i).bytes)=iw L i st))):=by
 have hq:∀b,(!decide (0<ah L))=b->(b=true->aq L=0)/\(b=false->aq L≠0):=fun b hb=>by
  subst hb;refine⟨fun h=>?_,fun h=>?_⟩
  ·have h1:¬0<ah L:=by simpa using h
   unfold ah at h1;omega
  ·have h1:0<ah L:=by simpa using h
   unfold ah at h1;omega
 refine⟨rfl,fun h=>Dh (SX ((hq _ h).1 rfl)) (by omega),fun h=>⟨rfl,fun h2=>?_,fun h2=>⟨rfl,fun h3=>?_,fun h3=>⟨rfl,rfl,?_⟩⟩⟩⟩
 ·exact Dh (M8 ((hq _ h).2 rfl) (by simpa using h2)) (by omega)
 ·exact Dh (Te ((hq _ h).2 rfl) (by simpa using h2) (by simp only[Bool.not_eq_true',Bool.and_eq_false_iff,decide_eq_false_iff_not]at h3;omega)) (by omega)
 ·have hE:eC L i st=0:=O4 ((hq _ h).2 rfl) (by simpa using h2) (by simp only[Bool.not_eq_false',VG,VH]at h3;omega)
  rw[hE];exact Lb hL hE
theorem QU (L:List Sx.Obj) (i st:Int) (hL:ar L):aj Tryz.prog 64 [.lp 0 0,.it .i64 i,.it .i64 st] [.store tS eS L] (zt (.it .i64 (eC L i st)) (iw L i st)) (fun _ _=>False):=
 aL (inl:=(fun f=>f==91||f==98)) (ann:=aR) (ab ba (ab eN au)) (aE cw aA) (cZ jR) (Q6 L i st hL) (by kernel_rfl)
theorem Hn:oP Tryz.prog 64 R7:=
 mf (m:=fun x=>Ug.cn x 0) (oi Rq (fun _=>rfl)) (fun _=>rfl) (fun _ _=>rfl) (fun x=>aL (inl:=(fun f=>f==91||f==98)) (ann:=aR) (ab ba (ab eN au)) (aE cw aA) (cZ jR) (Ox x.1 x.2.1) (by kernel_rfl)) (fun x=>aL (inl:=(fun f=>f==91||f==98)) (ann:=aR) (ab ba (ab eN au)) (aE cw aA) (cZ jR) (N3 x.1 x.2.1) (by kernel_rfl)) fun L x hL _ _=>QU L x.1 x.2.1 hL
end Go.Proofs.YtlblcfaclmpekaaGreat
