import Derived.Test.YtghpaegglbbocaaGreatCtWd
import Derived.Test.YtghpaegglbbocaaGreatKS
import Derived.Test.YtghpaegglbbocaaGreatSQ
import Derived.Test.YtghpaegglbbocaaGreatCV
namespace Go.Proofs.YtghpaegglbbocaaGreat
open Go.Sx
theorem Ql (L:List Sx.Obj) (i:Int):
 ((!(decide (i<0)||decide (b9 (aj L)<=i)))=true->0<=i/\i< ↑(aj L))/\((!(decide (i<0)||decide (b9 (aj L)<=i)))=true->i.toNat<aj L)/\((decide (i<0)||decide (b9 (aj
   L)<=i)|| !decide ((ah L i.toNat free).kind=1))=true-> -1=qt L i)/\((decide (i<0)||decide (b9 (aj L)<=i)|| !decide ((ah L i.toNat free).kind=1))=false->(0<=i/\i< ↑(aj
   L))/\i.toNat<aj L/\((!decide (((ah L i.toNat free).slots.at 2).kind=1)||decide (((ah L i.toNat free).slots.at 2).value<0)||decide (2<((ah L i.toNat free).slots.at 2).value))=
   true-> -1=qt L i)/\((!decide (((ah L i.toNat free).slots.at 2).kind=1)||decide (((ah L i.toNat free).slots.at 2).value<0)||decide (2<((ah L i.toNat free).slots.at 2).value))=
   false->((ah L i.toNat free).slots.at 2).value=qt L i)):=by
 have hn:b9 (aj L)=(L.length:Int):=rfl;have hl:aj L=L.length:=rfl;rw[hn,hl]
 have hin:∀{b:Bool},(!(decide (i<0)||decide ((L.length:Int)<=i)))=true->0<=i/\i<(L.length:Int):=fun h=>by
  simp only[Bool.not_eq_true',Bool.or_eq_false_iff,decide_eq_false_iff_not]at h;omega
 refine⟨fun h=>hin (b:=true) h,fun h=>by have:=hin (b:=true) h;omega,fun h=>?_,fun h=>?_⟩
 ·simp only[Bool.or_eq_true,Bool.not_eq_true',Yk,decide_eq_false_iff_not]at h;refine(Bh ?_).1.symm;unfold jo;cases hb:u5 (aR L i)with
  |false=>rfl
  |true=>
   exfalso
   have hk:=((Dg _).1 hb).1;by_cases hr:i<0\/(L.length:Int)<=i
   ·rw[Ja hr]at hk;simp[free]at hk
   ·rw[gG (by omega) (by omega)]at hk
    omega
 ·simp only[Bool.or_eq_false_iff,Bool.not_eq_false',Yk,decide_eq_false_iff_not]at h;have hr:0<=i/\i<(L.length:Int):=by omega
  have hg:aR L i=ah L i.toNat free:=gG hr.1 hr.2;have e:=Be (ah L i.toNat free);rw[show decide ((ah L i.toNat free).kind=1)=true from decide_eq_true h.2,Bool.not_true,Bool.false_or]at e;rw[e];refine⟨hr,by omega,fun h'=>?_,fun h'=>?_⟩
  ·exact(Bh (by unfold jo;rw[hg];simpa using h')).1.symm
  ·rw[(A1 (by unfold jo;rw[hg];simpa using h')).1,hg]
theorem Pm:ck Tryz.prog 126 Tm:=
 eP (aJ js R3) (fun _=>rfl) fun a hq hok=>by
  obtain⟨L,i,_⟩:=a;exact aV (inl:=bp) (ann:=aP) ak (Ql L i) (by kernel_rfl)
theorem Q9 (i:Int):
 true=true/\((!decide ((aR [] i).kind=1)|| !decide (((aR [] i).slots.at 2).kind=1)||decide (((aR [] i).slots.at 2).value<0)||decide (2<((aR [] i).slots.at 2).value))=true->
  0=p6 [] i/\false=jo [] i)/\((!decide ((aR [] i).kind=1)|| !decide (((aR [] i).slots.at 2).kind=1)||decide (((aR [] i).slots.at 2).value<0)||decide (2<((aR []
  i).slots.at 2).value))=false->((aR [] i).slots.at 2).value=p6 [] i/\true=jo [] i):=by
 have e:=Be (aR [] i);rw[e];refine⟨rfl,fun h=>?_,fun h=>?_⟩
 ·have h:jo [] i=false:=by unfold jo;simpa using h
  exact⟨(Bh h).2.symm,h.symm⟩
 ·have h:jo [] i=true:=by unfold jo;simpa using h
  exact⟨(A1 h).2.symm,h.symm⟩
theorem So (L:List Sx.Obj) (i:Int):
 true=true/\((!decide ((aR L i).kind=1)|| !decide (((aR L i).slots.at 2).kind=1)||decide (((aR L i).slots.at 2).value<0)||decide (2<((aR L i).slots.at 2).value))=true->0=
  p6 L i/\false=jo L i)/\((!decide ((aR L i).kind=1)|| !decide (((aR L i).slots.at 2).kind=1)||decide (((aR L i).slots.at 2).value<0)||decide (2<((aR L i).slots.at
  2).value))=false->((aR L i).slots.at 2).value=p6 L i/\true=jo L i):=by
 have e:=Be (aR L i);rw[e];refine⟨rfl,fun h=>?_,fun h=>?_⟩
 ·have h:jo L i=false:=by unfold jo;simpa using h
  exact⟨(Bh h).2.symm,h.symm⟩
 ·have h:jo L i=true:=by unfold jo;simpa using h
  exact⟨(A1 h).2.symm,h.symm⟩
theorem S6:ck Tryz.prog 167 U4:=
 eP (aJ s8 R3) (fun _=>rfl) fun a hq hok=>by
  obtain⟨S,i,_⟩:=a;cases S with
  |none=>exact aV (inl:=(fun f=>f==188)) (ann:=aP) (ab gY ak) (Q9 i) (by kernel_rfl)
  |some L=>exact aV (inl:=(fun f=>f==188)) (ann:=aP) (ab gY ak) (So L i) (by kernel_rfl)
theorem QF (L:List Sx.Obj) (i st:Int) (hL:aq L):
 (decide (b9 (aj L)=0)=true->mj L i st=false/\1=ea L i st)/\(decide (b9 (aj L)=0)=false->((!(decide (i<0)||decide (b9 (aj L)<=i)))=true->0<=i/\i< ↑(aj L))/\
  ((!(decide (i<0)||decide (b9 (aj L)<=i)))=true->i.toNat<aj L)/\((decide (i<0)||decide (b9 (aj L)<=i)|| !decide ((ah L i.toNat free).kind=1))=true->mj L i st=false/\
  230=ea L i st)/\((decide (i<0)||decide (b9 (aj L)<=i)|| !decide ((ah L i.toNat free).kind=1))=false->((decide (st<0)||decide (2<st))=true->mj L i st=false/\2=
  ea L i st)/\((decide (st<0)||decide (2<st))=false->(0<=i/\i< ↑(aj L))/\i.toNat<aj L/\true=true/\dL L i/\mj L i st=true/\0=ea L i st/\cC L i.toNat (Obj.mk
  (ah L i.toNat free).kind (ah L i.toNat free).count (ah L i.toNat free).calls ((ah L i.toNat free).slots.put 2 (Key.mk 1 void.oid void.count void.call void.rights st)) (ah L i.toNat
  free).bytes)=iK L i st))):=by
 have hn:b9 (aj L)=(L.length:Int):=rfl;have hlL:aj L=L.length:=rfl
 have hin:(!(decide (i<0)||decide (b9 (aj L)<=i)))=true->0<=i/\i<(L.length:Int):=fun h=>by
  rw[hn]at h;simp only[Bool.not_eq_true',Bool.or_eq_false_iff,decide_eq_false_iff_not]at h;omega
 refine⟨fun h=>?_,fun h=>⟨fun h=>hin h,fun h=>by have:=hin h;omega,fun h2=>?_,fun h2=>⟨fun h3=>?_,fun h3=>?_⟩⟩⟩
 ·have hl:aj L=0:=by have h1:b9 (aj L)=0:=Yn h;unfold b9 at h1;omega
  unfold mj;rw[Se hl];exact⟨rfl,rfl⟩
 ·have hl:aj L≠0:=by have h1:¬b9 (aj L)=0:=Ym h;unfold b9 at h1;omega
  unfold mj;rw[Fp hl (QT h2)];exact⟨rfl,rfl⟩
 ·have hl:aj L≠0:=by have h1:¬b9 (aj L)=0:=Ym h;unfold b9 at h1;omega
  unfold mj;rw[RX hl (Di h2).2.2.2 (by simpa using h3)];exact⟨rfl,rfl⟩
 ·have hl:aj L≠0:=by have h1:¬b9 (aj L)=0:=Ym h;unfold b9 at h1;omega
  obtain⟨a,b,c,d⟩:=Di h2;have hE:=R8 (st:=st) hl d (by simpa using h3)
  refine⟨⟨a,b⟩,by omega,rfl,Ot hL a b,by unfold mj;rw[hE];rfl,hE.symm,?_⟩
  unfold iK;rw[Yq hE,c];rfl
theorem QC (L:List Sx.Obj) (i st:Int) (hL:aq L):ai Tryz.prog 127 [.sa 0,.it .i64 i,.it .i64 st] [.ro (.arr none 163 (.ob L))] (yT (mj L i st) (iK L i st) [.it .i64 (ea L i st)]) (fun _ _=>False):=
 bn (inl:=(fun f=>f==110)) (ann:=aP) (ab kb ak) aC (QF L i st hL) (by kernel_rfl)
theorem OI:lF Tryz.prog 127 Ul:=
 iC (m:=fun x=>Vp.cn x 0) (gg IH (fun _=>rfl)) (fun _=>rfl) (fun _ _=>rfl) fun L x hq=>QC L x.1 x.2.1 hq
theorem OV (i st:Int):
 true=true/\((!decide (0<an []))=true->1=ea [] i st)/\((!decide (0<an []))=false->true=true/\((!decide ((aR [] i).kind=1))=true->230=ea [] i st)/\((!decide
  ((aR [] i).kind=1))=false->true=true/\((!(decide (0<=st)&&decide (st<=2)))=true->2=ea [] i st)/\((!(decide (0<=st)&&decide (st<=2)))=false->true=true/\true=true/\
  eJ [] i (Obj.mk (aR [] i).kind (aR [] i).count (aR [] i).calls ((aR [] i).slots.put 2 (Key.mk 1 void.oid void.count void.call void.rights st)) (aR [] i).bytes)=ea [] i st))):=by
 exact⟨rfl,fun h=>rfl,fun h=>absurd h (by decide)⟩
theorem PW (i st:Int):
 true=true/\((!decide (0<an []))=true->1=ea [] i st)/\((!decide (0<an []))=false->true=true/\((!decide ((aR [] i).kind=1))=true->230=ea [] i st)/\((!decide
  ((aR [] i).kind=1))=false->true=true/\((!(decide (0<=st)&&decide (st<=2)))=true->2=ea [] i st)/\((!(decide (0<=st)&&decide (st<=2)))=false->true=true/\true=true/\
  False))):=by
 exact⟨rfl,fun h=>rfl,fun h=>absurd h (by decide)⟩
theorem Un (L:List Sx.Obj) (i st:Int) (hL:aq L):
 true=true/\((!decide (0<an L))=true->1=ea L i st/\L=iK L i st)/\((!decide (0<an L))=false->true=true/\((!decide ((aR L i).kind=1))=true->230=ea L i st/\
  L=iK L i st)/\((!decide ((aR L i).kind=1))=false->true=true/\((!(decide (0<=st)&&decide (st<=2)))=true->2=ea L i st/\L=iK L i st)/\((!(decide (0<=st)&&decide (st
  <=2)))=false->true=true/\true=true/\eJ L i (Obj.mk (aR L i).kind (aR L i).count (aR L i).calls ((aR L i).slots.put 2 (Key.mk 1 void.oid void.count void.call void.rights st))
  (aR L i).bytes)=ea L i st/\cV L i (Obj.mk (aR L i).kind (aR L i).count (aR L i).calls ((aR L i).slots.put 2 (Key.mk 1 void.oid void.count void.call void.rights st)) (aR L
  i).bytes)=iK L i st))):=by
 have hq:∀b,(!decide (0<an L))=b->(b=true->aj L=0)/\(b=false->aj L≠0):=fun b hb=>by
  subst hb;refine⟨fun h=>?_,fun h=>?_⟩
  ·have h1:¬0<an L:=by simpa using h
   unfold an at h1;omega
  ·have h1:0<an L:=by simpa using h
   unfold an at h1;omega
 refine⟨rfl,fun h=>Eh (Se ((hq _ h).1 rfl)) (by omega),fun h=>⟨rfl,fun h2=>?_,fun h2=>⟨rfl,fun h3=>?_,fun h3=>⟨rfl,rfl,?_⟩⟩⟩⟩
 ·exact Eh (Fp ((hq _ h).2 rfl) (by simpa using h2)) (by omega)
 ·exact Eh (RX ((hq _ h).2 rfl) (by simpa using h2) (by simp only[Bool.not_eq_true',Bool.and_eq_false_iff,decide_eq_false_iff_not]at h3;omega)) (by omega)
 ·have hE:ea L i st=0:=R8 ((hq _ h).2 rfl) (by simpa using h2) (by simp only[Bool.not_eq_false',Yj,Yk]at h3;omega)
  rw[hE];exact Ss hL hE
theorem T5 (L:List Sx.Obj) (i st:Int) (hL:aq L):ai Tryz.prog 96 [.lp 0 0,.it .i64 i,.it .i64 st] [.store tS eS L] (B0 (.it .i64 (ea L i st)) (iK L i st)) (fun _ _=>False):=
 aW (inl:=(fun f=>f==169||f==170)) (ann:=aP) (ab bC (ab gY ak)) (aD dN aC) (eH yx) (Un L i st hL) (by kernel_rfl)
theorem S5:lF Tryz.prog 96 Vd:=
 mg (m:=fun x=>Vp.cn x 0) (gg IH (fun _=>rfl)) (fun _=>rfl) (fun _ _=>rfl) (fun x=>aW (inl:=(fun f=>f==169||f==170)) (ann:=aP) (ab bC (ab gY ak)) (aD dN aC) (eH yx) (OV x.1 x.2.1) (by kernel_rfl)) (fun x=>aW (inl:=(fun f=>f==169||f==170)) (ann:=aP) (ab bC (ab gY ak)) (aD dN aC) (eH yx) (PW x.1 x.2.1) (by kernel_rfl)) fun L x hL _ _=>T5 L x.1 x.2.1 hL
end Go.Proofs.YtghpaegglbbocaaGreat
