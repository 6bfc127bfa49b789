import Derived.Test.YtghpaegglbbocaaGreatCtWd
import Derived.Test.YtghpaegglbbocaaGreatKS
import Derived.Test.YtghpaegglbbocaaGreatSQ
import Derived.Test.YtghpaegglbbocaaGreatCV
namespace Go.Proofs.YtghpaegglbbocaaGreat
open Go.Sx
theorem P4 (L:List Sx.Obj) (i:Int):
 ((!(decide (i<0)||decide (cw (aj L)<=i)))=true->0<=i/\i< ↑(aj L))/\((!(decide (i<0)||decide (cw (aj L)<=i)))=true->i.toNat<aj L)/\((decide (i<0)||decide (cw (aj
   L)<=i)|| !decide ((ah L i.toNat free).kind=1))=true-> -1=pV L i)/\((decide (i<0)||decide (cw (aj L)<=i)|| !decide ((ah L i.toNat free).kind=1))=false->(0<=i/\i< ↑(aj
   L))/\i.toNat<aj L/\((!decide (((ah L i.toNat free).slots.at 2).kind=1)||decide (((ah L i.toNat free).slots.at 2).value<0)||decide (2<((ah L i.toNat free).slots.at 2).value))=
   true-> -1=pV L i)/\((!decide (((ah L i.toNat free).slots.at 2).kind=1)||decide (((ah L i.toNat free).slots.at 2).value<0)||decide (2<((ah L i.toNat free).slots.at 2).value))=
   false->((ah L i.toNat free).slots.at 2).value=pV L i)):=by
 have hn:cw (aj L)=(L.length:Int):=rfl;have hl:aj L=L.length:=rfl;rw[hn,hl]
 have hin:∀{b:Bool},(!(decide (i<0)||decide ((L.length:Int)<=i)))=true->0<=i/\i<(L.length:Int):=fun h=>by
  simp only[Bool.not_eq_true',Bool.or_eq_false_iff,decide_eq_false_iff_not]at h;omega
 refine⟨fun h=>hin (b:=true) h,fun h=>by have:=hin (b:=true) h;omega,fun h=>?_,fun h=>?_⟩
 ·simp only[Bool.or_eq_true,Bool.not_eq_true',XL,decide_eq_false_iff_not]at h;refine(Bj ?_).1.symm;unfold jj;cases hb:ue (aR L i)with
  |false=>rfl
  |true=>
   exfalso
   have hk:=((BB _).1 hb).1;by_cases hr:i<0\/(L.length:Int)<=i
   ·rw[LF hr]at hk;simp[free]at hk
   ·rw[gF (by omega) (by omega)]at hk
    omega
 ·simp only[Bool.or_eq_false_iff,Bool.not_eq_false',XL,decide_eq_false_iff_not]at h;have hr:0<=i/\i<(L.length:Int):=by omega
  have hg:aR L i=ah L i.toNat free:=gF hr.1 hr.2;have e:=Bm (ah L i.toNat free);rw[show decide ((ah L i.toNat free).kind=1)=true from decide_eq_true h.2,Bool.not_true,Bool.false_or]at e;rw[e];refine⟨hr,by omega,fun h'=>?_,fun h'=>?_⟩
  ·exact(Bj (by unfold jj;rw[hg];simpa using h')).1.symm
  ·rw[(Aj (by unfold jj;rw[hg];simpa using h')).1,hg]
theorem PR:cj Tryz.prog 126 RK:=
 eY (aJ jo Rt) (fun _=>rfl) fun a hq hok=>by
  obtain⟨L,i,_⟩:=a;exact aW (inl:=bn) (ann:=aP) an (P4 L i) (by kernel_rfl)
theorem NA (i:Int):
 true=true/\((!decide ((aR [] i).kind=1)|| !decide (((aR [] i).slots.at 2).kind=1)||decide (((aR [] i).slots.at 2).value<0)||decide (2<((aR [] i).slots.at 2).value))=true->
  0=pD [] i/\false=jj [] i)/\((!decide ((aR [] i).kind=1)|| !decide (((aR [] i).slots.at 2).kind=1)||decide (((aR [] i).slots.at 2).value<0)||decide (2<((aR []
  i).slots.at 2).value))=false->((aR [] i).slots.at 2).value=pD [] i/\true=jj [] i):=by
 have e:=Bm (aR [] i);rw[e];refine⟨rfl,fun h=>?_,fun h=>?_⟩
 ·have h:jj [] i=false:=by unfold jj;simpa using h
  exact⟨(Bj h).2.symm,h.symm⟩
 ·have h:jj [] i=true:=by unfold jj;simpa using h
  exact⟨(Aj h).2.symm,h.symm⟩
theorem TW (L:List Sx.Obj) (i:Int):
 true=true/\((!decide ((aR L i).kind=1)|| !decide (((aR L i).slots.at 2).kind=1)||decide (((aR L i).slots.at 2).value<0)||decide (2<((aR L i).slots.at 2).value))=true->0=
  pD L i/\false=jj L i)/\((!decide ((aR L i).kind=1)|| !decide (((aR L i).slots.at 2).kind=1)||decide (((aR L i).slots.at 2).value<0)||decide (2<((aR L i).slots.at
  2).value))=false->((aR L i).slots.at 2).value=pD L i/\true=jj L i):=by
 have e:=Bm (aR L i);rw[e];refine⟨rfl,fun h=>?_,fun h=>?_⟩
 ·have h:jj L i=false:=by unfold jj;simpa using h
  exact⟨(Bj h).2.symm,h.symm⟩
 ·have h:jj L i=true:=by unfold jj;simpa using h
  exact⟨(Aj h).2.symm,h.symm⟩
theorem T3:cj Tryz.prog 167 Vo:=
 eY (aJ tf Rt) (fun _=>rfl) fun a hq hok=>by
  obtain⟨S,i,_⟩:=a;cases S with
  |none=>exact aW (inl:=(fun f=>f==188)) (ann:=aP) (ae gW an) (NA i) (by kernel_rfl)
  |some L=>exact aW (inl:=(fun f=>f==188)) (ann:=aP) (ae gW an) (TW L i) (by kernel_rfl)
theorem Pw (L:List Sx.Obj) (i st:Int) (hL:aq L):
 (decide (cw (aj L)=0)=true->mE L i st=false/\1=dU L i st)/\(decide (cw (aj L)=0)=false->((!(decide (i<0)||decide (cw (aj L)<=i)))=true->0<=i/\i< ↑(aj L))/\
  ((!(decide (i<0)||decide (cw (aj L)<=i)))=true->i.toNat<aj L)/\((decide (i<0)||decide (cw (aj L)<=i)|| !decide ((ah L i.toNat free).kind=1))=true->mE L i st=false/\
  230=dU L i st)/\((decide (i<0)||decide (cw (aj L)<=i)|| !decide ((ah L i.toNat free).kind=1))=false->((decide (st<0)||decide (2<st))=true->mE L i st=false/\2=
  dU L i st)/\((decide (st<0)||decide (2<st))=false->(0<=i/\i< ↑(aj L))/\i.toNat<aj L/\true=true/\dN L i/\mE L i st=true/\0=dU L i st/\cx L i.toNat (Obj.mk
  (ah L i.toNat free).kind (ah L i.toNat free).count (ah L i.toNat free).calls ((ah L i.toNat free).slots.put 2 (Key.mk 1 void.oid void.count void.call void.rights st)) (ah L i.toNat
  free).bytes)=iw L i st))):=by
 have hn:cw (aj L)=(L.length:Int):=rfl;have hlL:aj L=L.length:=rfl
 have hin:(!(decide (i<0)||decide (cw (aj L)<=i)))=true->0<=i/\i<(L.length:Int):=fun h=>by
  rw[hn]at h;simp only[Bool.not_eq_true',Bool.or_eq_false_iff,decide_eq_false_iff_not]at h;omega
 refine⟨fun h=>?_,fun h=>⟨fun h=>hin h,fun h=>by have:=hin h;omega,fun h2=>?_,fun h2=>⟨fun h3=>?_,fun h3=>?_⟩⟩⟩
 ·have hl:aj L=0:=by have h1:cw (aj L)=0:=XO h;unfold cw at h1;omega
  unfold mE;rw[Rg hl];exact⟨rfl,rfl⟩
 ·have hl:aj L≠0:=by have h1:¬cw (aj L)=0:=XN h;unfold cw at h1;omega
  unfold mE;rw[E3 hl (QX h2)];exact⟨rfl,rfl⟩
 ·have hl:aj L≠0:=by have h1:¬cw (aj L)=0:=XN h;unfold cw at h1;omega
  unfold mE;rw[RD hl (CV h2).2.2.2 (by simpa using h3)];exact⟨rfl,rfl⟩
 ·have hl:aj L≠0:=by have h1:¬cw (aj L)=0:=XN h;unfold cw at h1;omega
  obtain⟨a,b,c,d⟩:=CV h2;have hE:=Rc (st:=st) hl d (by simpa using h3)
  refine⟨⟨a,b⟩,by omega,rfl,Od hL a b,by unfold mE;rw[hE];rfl,hE.symm,?_⟩
  unfold iw;rw[XR hE,c];rfl
theorem Ob (L:List Sx.Obj) (i st:Int) (hL:aq L):ai Tryz.prog 127 [.sa 0,.it .i64 i,.it .i64 st] [.ro (.arr none 163 (.ob L))] (yr (mE L i st) (iw L i st) [.it .i64 (dU L i st)]) (fun _ _=>False):=
 br (inl:=(fun f=>f==110)) (ann:=aP) (ae j7 an) aC (Pw L i st hL) (by kernel_rfl)
theorem Oz:ll Tryz.prog 127 RV:=
 iq (m:=fun x=>VH.cn x 0) (gg L3 (fun _=>rfl)) (fun _=>rfl) (fun _ _=>rfl) fun L x hq=>Ob L x.1 x.2.1 hq
theorem PV (i st:Int):
 true=true/\((!decide (0<ak []))=true->1=dU [] i st)/\((!decide (0<ak []))=false->true=true/\((!decide ((aR [] i).kind=1))=true->230=dU [] i st)/\((!decide
  ((aR [] i).kind=1))=false->true=true/\((!(decide (0<=st)&&decide (st<=2)))=true->2=dU [] i st)/\((!(decide (0<=st)&&decide (st<=2)))=false->true=true/\true=true/\
  eK [] i (Obj.mk (aR [] i).kind (aR [] i).count (aR [] i).calls ((aR [] i).slots.put 2 (Key.mk 1 void.oid void.count void.call void.rights st)) (aR [] i).bytes)=dU [] i st))):=by
 exact⟨rfl,fun h=>rfl,fun h=>absurd h (by decide)⟩
theorem Qu (i st:Int):
 true=true/\((!decide (0<ak []))=true->1=dU [] i st)/\((!decide (0<ak []))=false->true=true/\((!decide ((aR [] i).kind=1))=true->230=dU [] i st)/\((!decide
  ((aR [] i).kind=1))=false->true=true/\((!(decide (0<=st)&&decide (st<=2)))=true->2=dU [] i st)/\((!(decide (0<=st)&&decide (st<=2)))=false->true=true/\true=true/\
  False))):=by
 exact⟨rfl,fun h=>rfl,fun h=>absurd h (by decide)⟩
theorem SX (L:List Sx.Obj) (i st:Int) (hL:aq L):
 true=true/\((!decide (0<ak L))=true->1=dU L i st/\L=iw L i st)/\((!decide (0<ak L))=false->true=true/\((!decide ((aR L i).kind=1))=true->230=dU L i st/\
  L=iw L i st)/\((!decide ((aR L i).kind=1))=false->true=true/\((!(decide (0<=st)&&decide (st<=2)))=true->2=dU L i st/\L=iw L i st)/\((!(decide (0<=st)&&decide (st
  <=2)))=false->true=true/\true=true/\eK L i (Obj.mk (aR L i).kind (aR L i).count (aR L i).calls ((aR L i).slots.put 2 (Key.mk 1 void.oid void.count void.call void.rights st))
  (aR L i).bytes)=dU L i st/\cW L i (Obj.mk (aR L i).kind (aR L i).count (aR L i).calls ((aR L i).slots.put 2 (Key.mk 1 void.oid void.count void.call void.rights st)) (aR L
  i).bytes)=iw L i st))):=by
 have hq:∀b,(!decide (0<ak L))=b->(b=true->aj L=0)/\(b=false->aj L≠0):=fun b hb=>by
  subst hb;refine⟨fun h=>?_,fun h=>?_⟩
  ·have h1:¬0<ak L:=by simpa using h
   unfold ak at h1;omega
  ·have h1:0<ak L:=by simpa using h
   unfold ak at h1;omega
 refine⟨rfl,fun h=>D0 (Rg ((hq _ h).1 rfl)) (by omega),fun h=>⟨rfl,fun h2=>?_,fun h2=>⟨rfl,fun h3=>?_,fun h3=>⟨rfl,rfl,?_⟩⟩⟩⟩
 ·exact D0 (E3 ((hq _ h).2 rfl) (by simpa using h2)) (by omega)
 ·exact D0 (RD ((hq _ h).2 rfl) (by simpa using h2) (by simp only[Bool.not_eq_true',Bool.and_eq_false_iff,decide_eq_false_iff_not]at h3;omega)) (by omega)
 ·have hE:dU L i st=0:=Rc ((hq _ h).2 rfl) (by simpa using h2) (by simp only[Bool.not_eq_false',XK,XL]at h3;omega)
  rw[hE];exact SG hL hE
theorem R9 (L:List Sx.Obj) (i st:Int) (hL:aq L):ai Tryz.prog 96 [.lp 0 0,.it .i64 i,.it .i64 st] [.store tS eS L] (CP (.it .i64 (dU L i st)) (iw L i st)) (fun _ _=>False):=
 aV (inl:=(fun f=>f==169||f==170)) (ann:=aP) (ae bB (ae gW an)) (aF dM aC) (eD yj) (SX L i st hL) (by kernel_rfl)
theorem RU:ll Tryz.prog 96 UR:=
 mj (m:=fun x=>VH.cn x 0) (gg L3 (fun _=>rfl)) (fun _=>rfl) (fun _ _=>rfl) (fun x=>aV (inl:=(fun f=>f==169||f==170)) (ann:=aP) (ae bB (ae gW an)) (aF dM aC) (eD yj) (PV x.1 x.2.1) (by kernel_rfl)) (fun x=>aV (inl:=(fun f=>f==169||f==170)) (ann:=aP) (ae bB (ae gW an)) (aF dM aC) (eD yj) (Qu x.1 x.2.1) (by kernel_rfl)) fun L x hL _ _=>R9 L x.1 x.2.1 hL
end Go.Proofs.YtghpaegglbbocaaGreat
