import Derived.Test.YtghpaegglbbocaaGreatCtWd
import Derived.Test.YtghpaegglbbocaaGreatKS
import Derived.Test.YtghpaegglbbocaaGreatSQ
import Derived.Test.YtghpaegglbbocaaGreatCV
namespace Go.Proofs.YtghpaegglbbocaaGreat
open Go.Sx
theorem Ri (L:List Sx.Obj) (i:Int):
 ((!(decide (i<0)||decide (b9 (aj L)<=i)))=true->0<=i/\i< ↑(aj L))/\((!(decide (i<0)||decide (b9 (aj L)<=i)))=true->i.toNat<aj L)/\((decide (i<0)||decide (b9 (aj
   L)<=i)|| !decide ((ah L i.toNat free).kind=1))=true-> -1=qx L i)/\((decide (i<0)||decide (b9 (aj L)<=i)|| !decide ((ah L i.toNat free).kind=1))=false->(0<=i/\i< ↑(aj
   L))/\i.toNat<aj L/\((!decide (((ah L i.toNat free).slots.at 2).kind=1)||decide (((ah L i.toNat free).slots.at 2).value<0)||decide (2<((ah L i.toNat free).slots.at 2).value))=
   true-> -1=qx L i)/\((!decide (((ah L i.toNat free).slots.at 2).kind=1)||decide (((ah L i.toNat free).slots.at 2).value<0)||decide (2<((ah L i.toNat free).slots.at 2).value))=
   false->((ah L i.toNat free).slots.at 2).value=qx L i)):=by
 have hn:b9 (aj L)=(L.length:Int):=rfl;have hl:aj L=L.length:=rfl;rw[hn,hl]
 have hin:∀{b:Bool},(!(decide (i<0)||decide ((L.length:Int)<=i)))=true->0<=i/\i<(L.length:Int):=fun h=>by
  simp only[Bool.not_eq_true',Bool.or_eq_false_iff,decide_eq_false_iff_not]at h;omega
 refine⟨fun h=>hin (b:=true) h,fun h=>by have:=hin (b:=true) h;omega,fun h=>?_,fun h=>?_⟩
 ·simp only[Bool.or_eq_true,Bool.not_eq_true',Yp,decide_eq_false_iff_not]at h;refine(BR ?_).1.symm;unfold jr;cases hb:uZ (aR L i)with
  |false=>rfl
  |true=>
   exfalso
   have hk:=((Cr _).1 hb).1;by_cases hr:i<0\/(L.length:Int)<=i
   ·rw[Lt hr]at hk;simp[free]at hk
   ·rw[gD (by omega) (by omega)]at hk
    omega
 ·simp only[Bool.or_eq_false_iff,Bool.not_eq_false',Yp,decide_eq_false_iff_not]at h;have hr:0<=i/\i<(L.length:Int):=by omega
  have hg:aR L i=ah L i.toNat free:=gD hr.1 hr.2;have e:=Bf (ah L i.toNat free);rw[show decide ((ah L i.toNat free).kind=1)=true from decide_eq_true h.2,Bool.not_true,Bool.false_or]at e;rw[e];refine⟨hr,by omega,fun h'=>?_,fun h'=>?_⟩
  ·exact(BR (by unfold jr;rw[hg];simpa using h')).1.symm
  ·rw[(AF (by unfold jr;rw[hg];simpa using h')).1,hg]
theorem QC:ck Tryz.prog 126 Te:=
 eO (aJ ju Se) (fun _=>rfl) fun a hq hok=>by
  obtain⟨L,i,_⟩:=a;exact aV (inl:=bn) (ann:=aP) ak (Ri L i) (by kernel_rfl)
theorem PC (i:Int):
 true=true/\((!decide ((aR [] i).kind=1)|| !decide (((aR [] i).slots.at 2).kind=1)||decide (((aR [] i).slots.at 2).value<0)||decide (2<((aR [] i).slots.at 2).value))=true->
  0=pE [] i/\false=jr [] i)/\((!decide ((aR [] i).kind=1)|| !decide (((aR [] i).slots.at 2).kind=1)||decide (((aR [] i).slots.at 2).value<0)||decide (2<((aR []
  i).slots.at 2).value))=false->((aR [] i).slots.at 2).value=pE [] i/\true=jr [] i):=by
 have e:=Bf (aR [] i);rw[e];refine⟨rfl,fun h=>?_,fun h=>?_⟩
 ·have h:jr [] i=false:=by unfold jr;simpa using h
  exact⟨(BR h).2.symm,h.symm⟩
 ·have h:jr [] i=true:=by unfold jr;simpa using h
  exact⟨(AF h).2.symm,h.symm⟩
theorem SE (L:List Sx.Obj) (i:Int):
 true=true/\((!decide ((aR L i).kind=1)|| !decide (((aR L i).slots.at 2).kind=1)||decide (((aR L i).slots.at 2).value<0)||decide (2<((aR L i).slots.at 2).value))=true->0=
  pE L i/\false=jr L i)/\((!decide ((aR L i).kind=1)|| !decide (((aR L i).slots.at 2).kind=1)||decide (((aR L i).slots.at 2).value<0)||decide (2<((aR L i).slots.at
  2).value))=false->((aR L i).slots.at 2).value=pE L i/\true=jr L i):=by
 have e:=Bf (aR L i);rw[e];refine⟨rfl,fun h=>?_,fun h=>?_⟩
 ·have h:jr L i=false:=by unfold jr;simpa using h
  exact⟨(BR h).2.symm,h.symm⟩
 ·have h:jr L i=true:=by unfold jr;simpa using h
  exact⟨(AF h).2.symm,h.symm⟩
theorem UF:ck Tryz.prog 167 Wi:=
 eO (aJ tR Se) (fun _=>rfl) fun a hq hok=>by
  obtain⟨S,i,_⟩:=a;cases S with
  |none=>exact aV (inl:=(fun f=>f==188)) (ann:=aP) (ab gX ak) (PC i) (by kernel_rfl)
  |some L=>exact aV (inl:=(fun f=>f==188)) (ann:=aP) (ab gX ak) (SE L i) (by kernel_rfl)
theorem Rq (L:List Sx.Obj) (i st:Int) (hL:aq L):
 (decide (b9 (aj L)=0)=true->my L i st=false/\1=ea L i st)/\(decide (b9 (aj L)=0)=false->((!(decide (i<0)||decide (b9 (aj L)<=i)))=true->0<=i/\i< ↑(aj L))/\
  ((!(decide (i<0)||decide (b9 (aj L)<=i)))=true->i.toNat<aj L)/\((decide (i<0)||decide (b9 (aj L)<=i)|| !decide ((ah L i.toNat free).kind=1))=true->my L i st=false/\
  230=ea L i st)/\((decide (i<0)||decide (b9 (aj L)<=i)|| !decide ((ah L i.toNat free).kind=1))=false->((decide (st<0)||decide (2<st))=true->my L i st=false/\2=
  ea L i st)/\((decide (st<0)||decide (2<st))=false->(0<=i/\i< ↑(aj L))/\i.toNat<aj L/\true=true/\dS L i/\my L i st=true/\0=ea L i st/\cC L i.toNat (Obj.mk
  (ah L i.toNat free).kind (ah L i.toNat free).count (ah L i.toNat free).calls ((ah L i.toNat free).slots.put 2 (Key.mk 1 void.oid void.count void.call void.rights st)) (ah L i.toNat
  free).bytes)=iK L i st))):=by
 have hn:b9 (aj L)=(L.length:Int):=rfl;have hlL:aj L=L.length:=rfl
 have hin:(!(decide (i<0)||decide (b9 (aj L)<=i)))=true->0<=i/\i<(L.length:Int):=fun h=>by
  rw[hn]at h;simp only[Bool.not_eq_true',Bool.or_eq_false_iff,decide_eq_false_iff_not]at h;omega
 refine⟨fun h=>?_,fun h=>⟨fun h=>hin h,fun h=>by have:=hin h;omega,fun h2=>?_,fun h2=>⟨fun h3=>?_,fun h3=>?_⟩⟩⟩
 ·have hl:aj L=0:=by have h1:b9 (aj L)=0:=Ys h;unfold b9 at h1;omega
  unfold my;rw[RU hl];exact⟨rfl,rfl⟩
 ·have hl:aj L≠0:=by have h1:¬b9 (aj L)=0:=Yr h;unfold b9 at h1;omega
  unfold my;rw[Ft hl (N1 h2)];exact⟨rfl,rfl⟩
 ·have hl:aj L≠0:=by have h1:¬b9 (aj L)=0:=Yr h;unfold b9 at h1;omega
  unfold my;rw[Sh hl (CX h2).2.2.2 (by simpa using h3)];exact⟨rfl,rfl⟩
 ·have hl:aj L≠0:=by have h1:¬b9 (aj L)=0:=Yr h;unfold b9 at h1;omega
  obtain⟨a,b,c,d⟩:=CX h2;have hE:=R2 (st:=st) hl d (by simpa using h3)
  refine⟨⟨a,b⟩,by omega,rfl,Oh hL a b,by unfold my;rw[hE];rfl,hE.symm,?_⟩
  unfold iK;rw[Yv hE,c];rfl
theorem OX (L:List Sx.Obj) (i st:Int) (hL:aq L):ai Tryz.prog 127 [.sa 0,.it .i64 i,.it .i64 st] [.ro (.arr none 163 (.ob L))] (yV (my L i st) (iK L i st) [.it .i64 (ea L i st)]) (fun _ _=>False):=
 bp (inl:=(fun f=>f==110)) (ann:=aP) (ab kz ak) aC (Rq L i st hL) (by kernel_rfl)
theorem Po:lG Tryz.prog 127 SL:=
 iw (m:=fun x=>Vr.cn x 0) (gh MA (fun _=>rfl)) (fun _=>rfl) (fun _ _=>rfl) fun L x hq=>OX L x.1 x.2.1 hq
theorem P9 (i st:Int):
 true=true/\((!decide (0<an []))=true->1=ea [] i st)/\((!decide (0<an []))=false->true=true/\((!decide ((aR [] i).kind=1))=true->230=ea [] i st)/\((!decide
  ((aR [] i).kind=1))=false->true=true/\((!(decide (0<=st)&&decide (st<=2)))=true->2=ea [] i st)/\((!(decide (0<=st)&&decide (st<=2)))=false->true=true/\true=true/\
  eU [] i (Obj.mk (aR [] i).kind (aR [] i).count (aR [] i).calls ((aR [] i).slots.put 2 (Key.mk 1 void.oid void.count void.call void.rights st)) (aR [] i).bytes)=ea [] i st))):=by
 exact⟨rfl,fun h=>rfl,fun h=>absurd h (by decide)⟩
theorem QU (i st:Int):
 true=true/\((!decide (0<an []))=true->1=ea [] i st)/\((!decide (0<an []))=false->true=true/\((!decide ((aR [] i).kind=1))=true->230=ea [] i st)/\((!decide
  ((aR [] i).kind=1))=false->true=true/\((!(decide (0<=st)&&decide (st<=2)))=true->2=ea [] i st)/\((!(decide (0<=st)&&decide (st<=2)))=false->true=true/\true=true/\
  False))):=by
 exact⟨rfl,fun h=>rfl,fun h=>absurd h (by decide)⟩
theorem UH (L:List Sx.Obj) (i st:Int) (hL:aq L):
 true=true/\((!decide (0<an L))=true->1=ea L i st/\L=iK L i st)/\((!decide (0<an L))=false->true=true/\((!decide ((aR L i).kind=1))=true->230=ea L i st/\
  L=iK L i st)/\((!decide ((aR L i).kind=1))=false->true=true/\((!(decide (0<=st)&&decide (st<=2)))=true->2=ea L i st/\L=iK L i st)/\((!(decide (0<=st)&&decide (st
  <=2)))=false->true=true/\true=true/\eU L i (Obj.mk (aR L i).kind (aR L i).count (aR L i).calls ((aR L i).slots.put 2 (Key.mk 1 void.oid void.count void.call void.rights st))
  (aR L i).bytes)=ea L i st/\cW L i (Obj.mk (aR L i).kind (aR L i).count (aR L i).calls ((aR L i).slots.put 2 (Key.mk 1 void.oid void.count void.call void.rights st)) (aR L
  i).bytes)=iK L i st))):=by
 have hq:∀b,(!decide (0<an L))=b->(b=true->aj L=0)/\(b=false->aj L≠0):=fun b hb=>by
  subst hb;refine⟨fun h=>?_,fun h=>?_⟩
  ·have h1:¬0<an L:=by simpa using h
   unfold an at h1;omega
  ·have h1:0<an L:=by simpa using h
   unfold an at h1;omega
 refine⟨rfl,fun h=>E0 (RU ((hq _ h).1 rfl)) (by omega),fun h=>⟨rfl,fun h2=>?_,fun h2=>⟨rfl,fun h3=>?_,fun h3=>⟨rfl,rfl,?_⟩⟩⟩⟩
 ·exact E0 (Ft ((hq _ h).2 rfl) (by simpa using h2)) (by omega)
 ·exact E0 (Sh ((hq _ h).2 rfl) (by simpa using h2) (by simp only[Bool.not_eq_true',Bool.and_eq_false_iff,decide_eq_false_iff_not]at h3;omega)) (by omega)
 ·have hE:ea L i st=0:=R2 ((hq _ h).2 rfl) (by simpa using h2) (by simp only[Bool.not_eq_false',Yo,Yp]at h3;omega)
  rw[hE];exact Tk hL hE
theorem S4 (L:List Sx.Obj) (i st:Int) (hL:aq L):ai Tryz.prog 96 [.lp 0 0,.it .i64 i,.it .i64 st] [.store tS eS L] (B8 (.it .i64 (ea L i st)) (iK L i st)) (fun _ _=>False):=
 aW (inl:=(fun f=>f==169||f==170)) (ann:=aP) (ab bB (ab gX ak)) (aD dO aC) (eH xn) (UH L i st hL) (by kernel_rfl)
theorem SI:lG Tryz.prog 96 Vy:=
 mg (m:=fun x=>Vr.cn x 0) (gh MA (fun _=>rfl)) (fun _=>rfl) (fun _ _=>rfl) (fun x=>aW (inl:=(fun f=>f==169||f==170)) (ann:=aP) (ab bB (ab gX ak)) (aD dO aC) (eH xn) (P9 x.1 x.2.1) (by kernel_rfl)) (fun x=>aW (inl:=(fun f=>f==169||f==170)) (ann:=aP) (ab bB (ab gX ak)) (aD dO aC) (eH xn) (QU x.1 x.2.1) (by kernel_rfl)) fun L x hL _ _=>S4 L x.1 x.2.1 hL
end Go.Proofs.YtghpaegglbbocaaGreat
