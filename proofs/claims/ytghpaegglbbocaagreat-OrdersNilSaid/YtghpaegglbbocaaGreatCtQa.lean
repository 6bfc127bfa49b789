import Derived.Test.YtghpaegglbbocaaGreatCtWd
import Derived.Test.YtghpaegglbbocaaGreatKS
import Derived.Test.YtghpaegglbbocaaGreatSQ
import Derived.Test.YtghpaegglbbocaaGreatCV
namespace Go.Proofs.YtghpaegglbbocaaGreat
open Go.Sx
theorem N2 (L:List Sx.Obj) (i:Int):
 ((!(decide (i<0)||decide (b9 (ai L)<=i)))=true->0<=i/\i< ↑(ai L))/\((!(decide (i<0)||decide (b9 (ai L)<=i)))=true->i.toNat<ai L)/\((decide (i<0)||decide (b9 (ai
   L)<=i)|| !decide ((ah L i.toNat free).kind=1))=true-> -1=qh L i)/\((decide (i<0)||decide (b9 (ai L)<=i)|| !decide ((ah L i.toNat free).kind=1))=false->(0<=i/\i< ↑(ai
   L))/\i.toNat<ai L/\((!decide (((ah L i.toNat free).slots.at 2).kind=1)||decide (((ah L i.toNat free).slots.at 2).value<0)||decide (2<((ah L i.toNat free).slots.at 2).value))=
   true-> -1=qh L i)/\((!decide (((ah L i.toNat free).slots.at 2).kind=1)||decide (((ah L i.toNat free).slots.at 2).value<0)||decide (2<((ah L i.toNat free).slots.at 2).value))=
   false->((ah L i.toNat free).slots.at 2).value=qh L i)):=by
 have hn:b9 (ai L)=(L.length:Int):=rfl;have hl:ai L=L.length:=rfl;rw[hn,hl]
 have hin:∀{b:Bool},(!(decide (i<0)||decide ((L.length:Int)<=i)))=true->0<=i/\i<(L.length:Int):=fun h=>by
  simp only[Bool.not_eq_true',Bool.or_eq_false_iff,decide_eq_false_iff_not]at h;omega
 refine⟨fun h=>hin (b:=true) h,fun h=>by have:=hin (b:=true) h;omega,fun h=>?_,fun h=>?_⟩
 ·simp only[Bool.or_eq_true,Bool.not_eq_true',Yk,decide_eq_false_iff_not]at h;refine(A9 ?_).1.symm;unfold jr;cases hb:uM (aR L i)with
  |false=>rfl
  |true=>
   exfalso
   have hk:=((Cj _).1 hb).1;by_cases hr:i<0\/(L.length:Int)<=i
   ·rw[Lx hr]at hk;simp[free]at hk
   ·rw[gE (by omega) (by omega)]at hk
    omega
 ·simp only[Bool.or_eq_false_iff,Bool.not_eq_false',Yk,decide_eq_false_iff_not]at h;have hr:0<=i/\i<(L.length:Int):=by omega
  have hg:aR L i=ah L i.toNat free:=gE hr.1 hr.2;have e:=AJ (ah L i.toNat free);rw[show decide ((ah L i.toNat free).kind=1)=true from decide_eq_true h.2,Bool.not_true,Bool.false_or]at e;rw[e];refine⟨hr,by omega,fun h'=>?_,fun h'=>?_⟩
  ·exact(A9 (by unfold jr;rw[hg];simpa using h')).1.symm
  ·rw[(BE (by unfold jr;rw[hg];simpa using h')).1,hg]
theorem Ph:ck Tryz.prog 126 Un:=
 eW (aJ js Sd) (fun _=>rfl) fun a hq hok=>by
  obtain⟨L,i,_⟩:=a;exact aV (inl:=bp) (ann:=aP) ak (N2 L i) (by kernel_rfl)
theorem NY (i:Int):
 true=true/\((!decide ((aR [] i).kind=1)|| !decide (((aR [] i).slots.at 2).kind=1)||decide (((aR [] i).slots.at 2).value<0)||decide (2<((aR [] i).slots.at 2).value))=true->
  0=qt [] i/\false=jr [] i)/\((!decide ((aR [] i).kind=1)|| !decide (((aR [] i).slots.at 2).kind=1)||decide (((aR [] i).slots.at 2).value<0)||decide (2<((aR []
  i).slots.at 2).value))=false->((aR [] i).slots.at 2).value=qt [] i/\true=jr [] i):=by
 have e:=AJ (aR [] i);rw[e];refine⟨rfl,fun h=>?_,fun h=>?_⟩
 ·have h:jr [] i=false:=by unfold jr;simpa using h
  exact⟨(A9 h).2.symm,h.symm⟩
 ·have h:jr [] i=true:=by unfold jr;simpa using h
  exact⟨(BE h).2.symm,h.symm⟩
theorem UE (L:List Sx.Obj) (i:Int):
 true=true/\((!decide ((aR L i).kind=1)|| !decide (((aR L i).slots.at 2).kind=1)||decide (((aR L i).slots.at 2).value<0)||decide (2<((aR L i).slots.at 2).value))=true->0=
  qt L i/\false=jr L i)/\((!decide ((aR L i).kind=1)|| !decide (((aR L i).slots.at 2).kind=1)||decide (((aR L i).slots.at 2).value<0)||decide (2<((aR L i).slots.at
  2).value))=false->((aR L i).slots.at 2).value=qt L i/\true=jr L i):=by
 have e:=AJ (aR L i);rw[e];refine⟨rfl,fun h=>?_,fun h=>?_⟩
 ·have h:jr L i=false:=by unfold jr;simpa using h
  exact⟨(A9 h).2.symm,h.symm⟩
 ·have h:jr L i=true:=by unfold jr;simpa using h
  exact⟨(BE h).2.symm,h.symm⟩
theorem Ul:ck Tryz.prog 167 Vx:=
 eW (aJ sZ Sd) (fun _=>rfl) fun a hq hok=>by
  obtain⟨S,i,_⟩:=a;cases S with
  |none=>exact aV (inl:=(fun f=>f==188)) (ann:=aP) (ab gY ak) (NY i) (by kernel_rfl)
  |some L=>exact aV (inl:=(fun f=>f==188)) (ann:=aP) (ab gY ak) (UE L i) (by kernel_rfl)
theorem Pd (L:List Sx.Obj) (i st:Int) (hL:aq L):
 (decide (b9 (ai L)=0)=true->mn L i st=false/\1=dW L i st)/\(decide (b9 (ai L)=0)=false->((!(decide (i<0)||decide (b9 (ai L)<=i)))=true->0<=i/\i< ↑(ai L))/\
  ((!(decide (i<0)||decide (b9 (ai L)<=i)))=true->i.toNat<ai L)/\((decide (i<0)||decide (b9 (ai L)<=i)|| !decide ((ah L i.toNat free).kind=1))=true->mn L i st=false/\
  230=dW L i st)/\((decide (i<0)||decide (b9 (ai L)<=i)|| !decide ((ah L i.toNat free).kind=1))=false->((decide (st<0)||decide (2<st))=true->mn L i st=false/\2=
  dW L i st)/\((decide (st<0)||decide (2<st))=false->(0<=i/\i< ↑(ai L))/\i.toNat<ai L/\true=true/\dR L i/\mn L i st=true/\0=dW L i st/\cB L i.toNat (Obj.mk
  (ah L i.toNat free).kind (ah L i.toNat free).count (ah L i.toNat free).calls ((ah L i.toNat free).slots.put 2 (Key.mk 1 void.oid void.count void.call void.rights st)) (ah L i.toNat
  free).bytes)=iJ L i st))):=by
 have hn:b9 (ai L)=(L.length:Int):=rfl;have hlL:ai L=L.length:=rfl
 have hin:(!(decide (i<0)||decide (b9 (ai L)<=i)))=true->0<=i/\i<(L.length:Int):=fun h=>by
  rw[hn]at h;simp only[Bool.not_eq_true',Bool.or_eq_false_iff,decide_eq_false_iff_not]at h;omega
 refine⟨fun h=>?_,fun h=>⟨fun h=>hin h,fun h=>by have:=hin h;omega,fun h2=>?_,fun h2=>⟨fun h3=>?_,fun h3=>?_⟩⟩⟩
 ·have hl:ai L=0:=by have h1:b9 (ai L)=0:=Yn h;unfold b9 at h1;omega
  unfold mn;rw[RU hl];exact⟨rfl,rfl⟩
 ·have hl:ai L≠0:=by have h1:¬b9 (ai L)=0:=Ym h;unfold b9 at h1;omega
  unfold mn;rw[Fs hl (QR h2)];exact⟨rfl,rfl⟩
 ·have hl:ai L≠0:=by have h1:¬b9 (ai L)=0:=Ym h;unfold b9 at h1;omega
  unfold mn;rw[RS hl (CO h2).2.2.2 (by simpa using h3)];exact⟨rfl,rfl⟩
 ·have hl:ai L≠0:=by have h1:¬b9 (ai L)=0:=Ym h;unfold b9 at h1;omega
  obtain⟨a,b,c,d⟩:=CO h2;have hE:=R0 (st:=st) hl d (by simpa using h3)
  refine⟨⟨a,b⟩,by omega,rfl,Rs hL a b,by unfold mn;rw[hE];rfl,hE.symm,?_⟩
  unfold iJ;rw[Yq hE,c];rfl
theorem Qq (L:List Sx.Obj) (i st:Int) (hL:aq L):aj Tryz.prog 127 [.sa 0,.it .i64 i,.it .i64 st] [.ro (.arr none 163 (.ob L))] (yT (mn L i st) (iJ L i st) [.it .i64 (dW L i st)]) (fun _ _=>False):=
 bn (inl:=(fun f=>f==110)) (ann:=aP) (ab kC ak) aC (Pd L i st hL) (by kernel_rfl)
theorem OV:lA Tryz.prog 127 SC:=
 iy (m:=fun x=>Vw.cn x 0) (gf Iw (fun _=>rfl)) (fun _=>rfl) (fun _ _=>rfl) fun L x hq=>Qq L x.1 x.2.1 hq
theorem Oi (i st:Int):
 true=true/\((!decide (0<an []))=true->1=dW [] i st)/\((!decide (0<an []))=false->true=true/\((!decide ((aR [] i).kind=1))=true->230=dW [] i st)/\((!decide
  ((aR [] i).kind=1))=false->true=true/\((!(decide (0<=st)&&decide (st<=2)))=true->2=dW [] i st)/\((!(decide (0<=st)&&decide (st<=2)))=false->true=true/\true=true/\
  eU [] i (Obj.mk (aR [] i).kind (aR [] i).count (aR [] i).calls ((aR [] i).slots.put 2 (Key.mk 1 void.oid void.count void.call void.rights st)) (aR [] i).bytes)=dW [] i st))):=by
 exact⟨rfl,fun h=>rfl,fun h=>absurd h (by decide)⟩
theorem O4 (i st:Int):
 true=true/\((!decide (0<an []))=true->1=dW [] i st)/\((!decide (0<an []))=false->true=true/\((!decide ((aR [] i).kind=1))=true->230=dW [] i st)/\((!decide
  ((aR [] i).kind=1))=false->true=true/\((!(decide (0<=st)&&decide (st<=2)))=true->2=dW [] i st)/\((!(decide (0<=st)&&decide (st<=2)))=false->true=true/\true=true/\
  False))):=by
 exact⟨rfl,fun h=>rfl,fun h=>absurd h (by decide)⟩
theorem S6 (L:List Sx.Obj) (i st:Int) (hL:aq L):
 true=true/\((!decide (0<an L))=true->1=dW L i st/\L=iJ L i st)/\((!decide (0<an L))=false->true=true/\((!decide ((aR L i).kind=1))=true->230=dW L i st/\
  L=iJ L i st)/\((!decide ((aR L i).kind=1))=false->true=true/\((!(decide (0<=st)&&decide (st<=2)))=true->2=dW L i st/\L=iJ L i st)/\((!(decide (0<=st)&&decide (st
  <=2)))=false->true=true/\true=true/\eU L i (Obj.mk (aR L i).kind (aR L i).count (aR L i).calls ((aR L i).slots.put 2 (Key.mk 1 void.oid void.count void.call void.rights st))
  (aR L i).bytes)=dW L i st/\cW L i (Obj.mk (aR L i).kind (aR L i).count (aR L i).calls ((aR L i).slots.put 2 (Key.mk 1 void.oid void.count void.call void.rights st)) (aR L
  i).bytes)=iJ L i st))):=by
 have hq:∀b,(!decide (0<an L))=b->(b=true->ai L=0)/\(b=false->ai L≠0):=fun b hb=>by
  subst hb;refine⟨fun h=>?_,fun h=>?_⟩
  ·have h1:¬0<an L:=by simpa using h
   unfold an at h1;omega
  ·have h1:0<an L:=by simpa using h
   unfold an at h1;omega
 refine⟨rfl,fun h=>DI (RU ((hq _ h).1 rfl)) (by omega),fun h=>⟨rfl,fun h2=>?_,fun h2=>⟨rfl,fun h3=>?_,fun h3=>⟨rfl,rfl,?_⟩⟩⟩⟩
 ·exact DI (Fs ((hq _ h).2 rfl) (by simpa using h2)) (by omega)
 ·exact DI (RS ((hq _ h).2 rfl) (by simpa using h2) (by simp only[Bool.not_eq_true',Bool.and_eq_false_iff,decide_eq_false_iff_not]at h3;omega)) (by omega)
 ·have hE:dW L i st=0:=R0 ((hq _ h).2 rfl) (by simpa using h2) (by simp only[Bool.not_eq_false',Yj,Yk]at h3;omega)
  rw[hE];exact SY hL hE
theorem S2 (L:List Sx.Obj) (i st:Int) (hL:aq L):aj Tryz.prog 96 [.lp 0 0,.it .i64 i,.it .i64 st] [.store tS eS L] (Cn (.it .i64 (dW L i st)) (iJ L i st)) (fun _ _=>False):=
 aW (inl:=(fun f=>f==169||f==170)) (ann:=aP) (ab bB (ab gY ak)) (aD dO aC) (eF xg) (S6 L i st hL) (by kernel_rfl)
theorem TM:lA Tryz.prog 96 VH:=
 mD (m:=fun x=>Vw.cn x 0) (gf Iw (fun _=>rfl)) (fun _=>rfl) (fun _ _=>rfl) (fun x=>aW (inl:=(fun f=>f==169||f==170)) (ann:=aP) (ab bB (ab gY ak)) (aD dO aC) (eF xg) (Oi x.1 x.2.1) (by kernel_rfl)) (fun x=>aW (inl:=(fun f=>f==169||f==170)) (ann:=aP) (ab bB (ab gY ak)) (aD dO aC) (eF xg) (O4 x.1 x.2.1) (by kernel_rfl)) fun L x hL _ _=>S2 L x.1 x.2.1 hL
end Go.Proofs.YtghpaegglbbocaaGreat
