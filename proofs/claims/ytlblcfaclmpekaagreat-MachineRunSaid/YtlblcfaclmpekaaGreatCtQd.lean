import Derived.Test.YtlblcfaclmpekaaGreatCtQc
set_option linter.unusedSimpArgs false
set_option linter.unusedVariables false
namespace Go.Proofs.YtlblcfaclmpekaaGreat
open Go.Sx
set_option maxRecDepth 100000
theorem Fq:
 ∀(nid:Nat),some (V.mp nid)=some (V.mp nid)/\some [aB.mp IntKind.i64 [6,7] [V.fn 126 [],V.fn 127 []]]=some [aB.mp IntKind.i64
  [6,7] [V.fn 126 [],V.fn 127 []]]:=by
 exact fun nid=>⟨rfl,rfl⟩
theorem tD:dC Tryz.prog 95 (yO Vp Vr):=rJ (π:= [0]) (by decide) (fun _=>rfl) (bP (inl:=ca) (ann:=aR) au aA Fq (by kernel_rfl))
theorem qn:dC Tryz.prog 36 C7:=NG ba
theorem Nm (i:Int) (m:bh) (hs:aw m.data):
 true=true/\1=iY [] i m:=by
 exact⟨rfl,rfl⟩
theorem My (i:Int) (m:bh) (hs:aw m.data):
 true=true/\1=iY [] i m:=by
 exact⟨rfl,rfl⟩
theorem Rt (L:List Sx.Obj) (i:Int) (m:bh) (hL:ar L) (hs:aw m.data):
 true=true/\((!decide (0<ah L))=true->1=iY L i m/\L=j7 L i m)/\((!decide (0<ah L))=false->true=true/\aM IntKind.i64 (cC m.data)/\true=true/\((!decide (cC
  m.data<=32))=true->2=iY L i m/\L=j7 L i m)/\((!decide (cC m.data<=32))=false->true=true/\true=true/\((!(decide (bT m.k0=0)&&(!aP m.k0||decide (bH m.k0<
  ah L))))=true->2=iY L i m/\L=j7 L i m)/\((!(decide (bT m.k0=0)&&(!aP m.k0||decide (bH m.k0<ah L))))=false->true=true/\true=true/\((!(decide (bT
  m.k1=0)&&(!aP m.k1||decide (bH m.k1<ah L))))=true->2=iY L i m/\L=j7 L i m)/\((!(decide (bT m.k1=0)&&(!aP m.k1||decide (bH m.k1<ah L))))=false
  ->true=true/\true=true/\((!(decide (bT m.k2=0)&&(!aP m.k2||decide (bH m.k2<ah L))))=true->2=iY L i m/\L=j7 L i m)/\((!(decide (bT m.k2=0)&&(!aP
  m.k2||decide (bH m.k2<ah L))))=false->true=true/\((!(dc L i&&decide (gE L i=1)))=true->230=iY L i m/\L=j7 L i m)/\((!(dc L i&&decide (gE L i=1)))=
  false->true=true/\true=true/\true=true/\true=true/\true=true/\aM IntKind.i64 (cC m.data)/\aM IntKind.u8 (cC m.data)/\Bg 1 64 64/\true=true/\0=iY L i m/\bO L i
  (Obj.mk (aC L i).kind (aC L i).count (aC L i).calls (((((((aC L i).slots.put 2 (Key.mk 1 void.oid void.count void.call void.rights 1)).put 3 (Key.mk 1 void.oid void.count void.call
  void.rights m.code)).put 12 (ae L m.k0)).put 13 (ae L m.k1)).put 14 (ae L m.k2)).put 15 void) (GM (ey.put 0 (Ru (cC m.data))) (Int.toNat 1) (Int.toNat 64) m.data))=j7 L i
  m)))))):=by
 have no:∀e,iY L i m=e->e≠0->e=iY L i m/\L=j7 L i m:=fun e h he=>⟨h.symm,by unfold j7;rw[h,VM he]⟩
 have hq1:(!decide (0<ah L))=true->aq L=0:=fun h=>by
  have h1:¬0<ah L:=by simpa using h
  unfold ah at h1;omega
 have hq0:(!decide (0<ah L))=false->aq L≠0:=fun h=>by
  have h1:0<ah L:=by simpa using h
  unfold ah at h1;omega
 have hsz:aM IntKind.i64 (cC m.data):=by unfold aw at hs;simp only[aM,cj,cC];omega
 have hs8:cC m.data<=32->aM IntKind.u8 (cC m.data):=fun h=>by simp only[aM,cj,cC]at *;omega
 simp only[rv,E2];simp only[oT,ni,rQ,lD,decide_true,Bool.and_true,Bool.not_true,Bool.or_false,Bool.not_false,Bool.false_eq_true,Bool.true_eq_false,false_implies,implies_true,true_implies,true_and,and_true,and_self];have mk:h9 L m=(decide (cC m.data<=32)&&bQ L m.k0&&bQ L m.k1&&bQ L m.k2):=rfl
 have bad:aq L≠0->h9 L m=false->2=iY L i m/\L=j7 L i m:=fun h hm=>no _ (by unfold iY;rw[VM h,VN hm]) (by omega)
 refine⟨fun h=>no _ (by unfold iY;rw[VN (hq1 h)]) (by omega),fun h=>⟨hsz,fun g1=>bad (hq0 h) ?_,fun g1=>⟨fun g2=>bad (hq0 h) ?_,fun g2=>⟨fun g3=>bad (hq0 h) ?_,fun g3=>⟨fun g4=>bad (hq0 h) ?_,fun g4=>⟨fun g5=>no _ ?_ (by omega),fun g5=>?_⟩⟩⟩⟩⟩⟩
 ·rw[mk,show decide (cC m.data<=32)=false by simpa using g1];rfl
 ·rw[mk,show bQ L m.k0=false by simpa using g2];simp
 ·rw[mk,show bQ L m.k1=false by simpa using g3];simp
 ·rw[mk,show bQ L m.k2=false by simpa using g4];simp
 all_goals
  have hm:h9 L m=true:=by
   rw[mk,show decide (cC m.data<=32)=true by simpa using g1,show bQ L m.k0=true by simpa using g2,show bQ L m.k1=true by simpa using g3,show bQ L m.k2=true by simpa using g4];rfl
 ·unfold iY;rw[VM (hq0 h),VM (by simp[hm]),VN (by simpa using g5)]
 have g5':bV L i=1:=by simpa using g5
 have hE:iY L i m=0:=by unfold iY;rw[VM (hq0 h),VM (by simp[hm]),VM (by omega)]
 obtain⟨a,b,c,d⟩:=qS (sD.1.1 (by omega:0<=bV L i))
 refine⟨hsz,hs8 (De hm),⟨by omega,by omega,by omega⟩,hE.symm,?_⟩
 obtain⟨f0,f1,f2⟩:=Am (by have:=jm hL;omega:0<L.length) m
 have ho:=Dp (m:=lU L m) (a:=void) (cH hL i.toNat (by omega)) d f0 f1 f2 (wV (by omega))
 have e:Obj.mk (aC L i).kind (aC L i).count (aC L i).calls (((((((aC L i).slots.put 2 (Key.mk 1 void.oid void.count void.call void.rights 1)).put 3 (Key.mk 1 void.oid void.count void.call void.rights m.code)).put 12 (ae L m.k0)).put 13 (ae L m.k1)).put 14 (ae L m.k2)).put 15 void) (GM (ey.put 0 (Ru (cC m.data))) (Int.toNat 1) (Int.toNat 64) m.data)=wB (aC L i) (lU L m) void:=by
  rw[IK (De hm)];rfl
 rw[e,c,(kr a b ho).1];unfold j7 D0;rw[VN hE]
theorem RD (L:List Sx.Obj) (i:Int) (m:bh) (hL:ar L) (hs:aw m.data):aj Tryz.prog 63 [.lp 0 0,.it .i64 i,qQ m] [.store tS eS L] (zt (.it .i64 (iY L i m)) (j7 L i m)) (fun _ _=>False):=
 aL (inl:=(fun f=>f==91||f==94||f==93||f==100||f==129||f==96||f==128||f==98)) (ann:=(kV [(94,2,Rb 4)])) (ab ba (ab eN (ab fR (ab fh (ab cF (ab pt au)))))) (aE cw aA) (cZ jR) (Rt L i m hL hs) (by kernel_rfl)
theorem Ps:oP Tryz.prog 63 Sb:=
 zi (m:=fun x=>UO.cn x 0) (oi Ro (fun _=>rfl)) (fun _=>rfl) (fun _ _=>rfl) (fun x hs=>aL (inl:=(fun f=>f==91||f==94||f==93||f==100||f==129||f==96||f==128||f==98)) (ann:=aR) (ab qn (ab eN (ab fR (ab fh (ab cF (ab pt au)))))) (aE cw aA) (cZ jR) (Nm x.1 x.2.1 hs) (by kernel_rfl)) (fun x hs=>aL (inl:=(fun f=>f==91||f==94||f==93||f==100||f==129||f==96||f==128||f==98)) (ann:=aR) (ab qn (ab eN (ab fR (ab fh (ab cF (ab pt au)))))) (aE cw aA) (cZ jR) (My x.1 x.2.1 hs) (by kernel_rfl)) fun L x hq=>RD L x.1 x.2.1 hq.1 hq.2
theorem Mc (i:Int) (k:Key) (md:Int) (m:bh) (hs:aw m.data):
 true=true/\1=cD [] i k md m:=by
 exact⟨rfl,rfl⟩
theorem ME (i:Int) (k:Key) (md:Int) (m:bh) (hs:aw m.data):
 true=true/\1=cD [] i k md m:=by
 exact⟨rfl,rfl⟩
theorem RE (L:List Sx.Obj) (i:Int) (k:Key) (md:Int) (m:bh) (hL:ar L) (hs:aw m.data):
 true=true/\((!decide (0<ah L))=true->1=cD L i k md m/\L=fz L i k md m)/\((!decide (0<ah L))=false->true=true/\true=true/\((!(decide (md=1)||(decide (md=2)
  ||decide (md=3))))=true->2=cD L i k md m/\L=fz L i k md m)/\((!(decide (md=1)||(decide (md=2)||decide (md=3))))=false->true=true/\true=true/\((!(decide (bT k=
  0)&&(!aP k||decide (bH k<ah L))))=true->2=cD L i k md m/\L=fz L i k md m)/\((!(decide (bT k=0)&&(!aP k||decide (bH k<ah L))))=false->true=
  true/\aM IntKind.i64 (cC m.data)/\true=true/\((!decide (cC m.data<=32))=true->2=cD L i k md m/\L=fz L i k md m)/\((!decide (cC m.data<=32))=false->true=true/\true=
  true/\((!(decide (bT m.k0=0)&&(!aP m.k0||decide (bH m.k0<ah L))))=true->2=cD L i k md m/\L=fz L i k md m)/\((!(decide (bT m.k0=0)&&(!aP m.k0||decide
  (bH m.k0<ah L))))=false->true=true/\true=true/\((!(decide (bT m.k1=0)&&(!aP m.k1||decide (bH m.k1<ah L))))=true->2=cD L i k md m/\L=fz L i k md m)
  /\((!(decide (bT m.k1=0)&&(!aP m.k1||decide (bH m.k1<ah L))))=false->true=true/\true=true/\((!(decide (bT m.k2=0)&&(!aP m.k2||decide (bH m.k2<ah
  L))))=true->2=cD L i k md m/\L=fz L i k md m)/\((!(decide (bT m.k2=0)&&(!aP m.k2||decide (bH m.k2<ah L))))=false->true=true/\((!(dc L i&&decide (gE L
  i=1)))=true->230=cD L i k md m/\L=fz L i k md m)/\((!(dc L i&&decide (gE L i=1)))=false->true=true/\((!((decide (k.kind=6)||decide (k.kind=7))&&aQ L k))=
  true->231=cD L i k md m/\L=fz L i k md m)/\((!((decide (k.kind=6)||decide (k.kind=7))&&aQ L k))=false->((decide (k.kind=6)=true->true=true/\true=true/\((!dc L
  k.oid)=true->231=cD L i k md m/\L=fz L i k md m)/\((!dc L k.oid)=false->true=true/\((!(decide (gE L k.oid=0)||decide (md=3)&&decide (k.oid=i)))=true->232=cD
  L i k md m/\L=fz L i k md m)/\((!(decide (gE L k.oid=0)||decide (md=3)&&decide (k.oid=i)))=false->∃g:Unit,ES L i k md m/\i=i/\md=md/\L=L/\k=k/\m.code=m.code
  /\m.data=m.data/\ae L m.k0=ae L m.k0/\ae L m.k1=ae L m.k1/\ae L m.k2=ae L m.k2/\i=i/\k=k/\md=md/\wi (decide (md=1)) 2 (wi (decide (md=2)) 1 (wi
  (decide (md=3)) 0 0))=iF md/\aC L i=aC L i)))/\(decide (k.kind=6)=false->(decide (k.kind=7)=true->true=true/\true=true/\((!dc L k.oid)=true->231=cD L i k md
  m/\L=fz L i k md m)/\((!dc L k.oid)=false->true=true/\((!decide (gE L k.oid=2))=true->232=cD L i k md m/\L=fz L i k md m)/\((!decide (gE L k.oid=2))=false->
  true=true/\((!decide ((aC L k.oid).calls<4294967295))=true->233=cD L i k md m/\L=fz L i k md m)/\((!decide ((aC L k.oid).calls<4294967295))=false->∃g:Unit,ES L i k
  md m/\i=i/\md=md/\L=L/\k=k/\m.code=m.code/\m.data=m.data/\ae L m.k0=ae L m.k0/\ae L m.k1=ae L m.k1/\ae L m.k2=ae L m.k2/\i=i/\k=k/\md=md/\
  wi (decide (md=1)) 2 (wi (decide (md=2)) 1 (wi (decide (md=3)) 0 0))=iF md/\aC L i=aC L i))))/\(decide (k.kind=7)=false->False)))/\∀(g:Unit),ES L i k md m->true
  =true/\((!(!decide (md=1)||decide ((aC L i).calls<4294967295)))=true->233=cD L i k md m/\L=fz L i k md m)/\((!(!decide (md=1)||decide ((aC L i).calls<4294967295)))=
  false->((decide (md=1)=true->∃g:Unit,o7 L i k md m/\i=i/\md=md/\L=L/\k=k/\m.code=m.code/\m.data=m.data/\ae L m.k0=ae L m.k0/\ae L m.k1=ae L m.k1/\
  ae L m.k2=ae L m.k2/\i=i/\k=k/\md=md/\iF md=iF md/\aC L i=aC L i/\Key.mk 7 i (aC L i).count (aC L i).calls void.rights void.value=jU L i md)/\(decide
  (md=1)=false->∃g:Unit,o7 L i k md m/\i=i/\md=md/\L=L/\k=k/\m.code=m.code/\m.data=m.data/\ae L m.k0=ae L m.k0/\ae L m.k1=ae L m.k1/\ae L m.k2=
  ae L m.k2/\i=i/\k=k/\md=md/\iF md=iF md/\aC L i=aC L i/\void=jU L i md))/\∀(g:Unit),o7 L i k md m->(true=true/\true=true/\true=true/\true=true/\
  ∃g:Unit,o7 L i k md m/\i=i/\md=md/\bO L i (Obj.mk (aC L i).kind (aC L i).count (aC L i).calls ((aC L i).slots.put 2 (Key.mk 1 void.oid void.count void.call void.rights
  (iF md))) (aC L i).bytes)=gB L i md/\k=k/\m.code=m.code/\m.data=m.data/\ae L m.k0=ae L m.k0/\ae L m.k1=ae L m.k1/\ae L m.k2=ae L m.k2/\i=i/\k=
  k/\md=md/\iF md=iF md/\aC L i=aC L i/\jU L i md=jU L i md)/\∀(g:Unit),o7 L i k md m->((decide (k.kind=7)=true->true=true/\true=true/\aM IntKind.i64
  ((aC (gB L i md) k.oid).calls+1)/\true=true/\∃g:Unit,o7 L i k md m/\i=i/\md=md/\bO (gB L i md) k.oid (Obj.mk (aC (gB L i md) k.oid).kind (aC (gB L i md)
  k.oid).count ((aC (gB L i md) k.oid).calls+1) (aC (gB L i md) k.oid).slots (aC (gB L i md) k.oid).bytes)=hJ L i k md/\k=k/\m.code=m.code/\m.data=m.data/\ae L m.k0
  =ae L m.k0/\ae L m.k1=ae L m.k1/\ae L m.k2=ae L m.k2/\i=i/\k=k/\md=md/\iF md=iF md/\aC L i=aC L i/\jU L i md=jU L i md)/\(decide (k.kind
  =7)=false->∃g:Unit,o7 L i k md m/\i=i/\md=md/\gB L i md=hJ L i k md/\k=k/\m.code=m.code/\m.data=m.data/\ae L m.k0=ae L m.k0/\ae L m.k1=ae L m.k1
  /\ae L m.k2=ae L m.k2/\i=i/\k=k/\md=md/\iF md=iF md/\aC L i=aC L i/\jU L i md=jU L i md))/\∀(g:Unit),o7 L i k md m->true=true/\true=true/\
  true=true/\true=true/\true=true/\aM IntKind.i64 (cC m.data)/\aM IntKind.u8 (cC m.data)/\Bg 1 64 64/\true=true/\0=cD L i k md m/\bO (hJ L i k md) k.oid (Obj.mk (aC
  (hJ L i k md) k.oid).kind (aC (hJ L i k md) k.oid).count (aC (hJ L i k md) k.oid).calls (((((((aC (hJ L i k md) k.oid).slots.put 2 (Key.mk 1 void.oid void.count void.call
  void.rights 1)).put 3 (Key.mk 1 void.oid void.count void.call void.rights m.code)).put 12 (ae L m.k0)).put 13 (ae L m.k1)).put 14 (ae L m.k2)).put 15 (jU L i md)) (GM (ey.put 0
  (Ru (cC m.data))) (Int.toNat 1) (Int.toNat 64) m.data))=fz L i k md m)))))))))):=by
 have hq1:(!decide (0<ah L))=true->aq L=0:=fun h=>by
  have h1:¬0<ah L:=by simpa using h
  unfold ah at h1;omega
 have hq0:(!decide (0<ah L))=false->aq L≠0:=fun h=>by
  have h1:0<ah L:=by simpa using h
  unfold ah at h1;omega
 have hsz:aM IntKind.i64 (cC m.data):=by unfold aw at hs;simp only[aM,cj,cC];omega
 have hs8:cC m.data<=32->aM IntKind.u8 (cC m.data):=fun h=>by simp only[aM,cj,cC]at *;omega
 simp only[rv,E2];simp only[oT,ni,rQ,lD,decide_true,Bool.and_true,Bool.not_true,Bool.or_false,Bool.not_false,Bool.false_eq_true,Bool.true_eq_false,false_implies,implies_true,true_implies,true_and,and_true,and_self];have mk:h9 L m=(decide (cC m.data<=32)&&bQ L m.k0&&bQ L m.k1&&bQ L m.k2):=rfl
 refine⟨fun h=>mj (SB (hq1 h)) (by omega),fun h=>⟨fun c1=>mj (DH (hq0 h) (.inl ?_)) (by omega),fun c1=>⟨fun c2=>mj (DH (hq0 h) (.inr (.inl ?_))) (by omega),fun c2=>⟨hsz,fun g1=>mj (DH (hq0 h) (.inr (.inr ?_))) (by omega),fun g1=>⟨fun g2=>mj (DH (hq0 h) (.inr (.inr ?_))) (by omega),fun g2=>⟨fun g3=>mj (DH (hq0 h) (.inr (.inr ?_))) (by omega),fun g3=>⟨fun g4=>mj (DH (hq0 h) (.inr (.inr ?_))) (by omega),fun g4=>?_⟩⟩⟩⟩⟩⟩⟩
 ·simp at c1;omega
 ·simpa using c2
 ·rw[mk,show decide (cC m.data<=32)=false by simpa using g1];rfl
 ·rw[mk,show bQ L m.k0=false by simpa using g2];simp
 ·rw[mk,show bQ L m.k1=false by simpa using g3];simp
 ·rw[mk,show bQ L m.k2=false by simpa using g4];simp
 have hl:=hq0 h;have b1:1<=md/\md<=3:=by simp at c1;omega
 have b2:bQ L k=true:=by simpa using c2
 have b3:h9 L m=true:=by
  rw[mk,show decide (cC m.data<=32)=true by simpa using g1,show bQ L m.k0=true by simpa using g2,show bQ L m.k1=true by simpa using g3,show bQ L m.k2=true by simpa using g4];rfl
 have b:¬(¬(1<=md/\md<=3)\/bQ L k=false\/h9 L m=false):=by
  rw[b2,b3];rintro(x|x|x)
  ·exact x b1
  ·exact Bool.noConfusion x
  ·exact Bool.noConfusion x
 refine⟨fun g5=>mj (Lr hl b (by simpa using g5)) (by omega),fun g5=>?_⟩
 have c:bV L i=1:=by simpa using g5
 refine⟨fun g6=>mj (CL hl b c ?_) (by omega),fun g6=>?_⟩
 ·simp only[Bool.not_eq_true',Bool.and_eq_false_iff,Bool.or_eq_false_iff,decide_eq_false_iff_not]at g6;rcases g6 with⟨x,y⟩|x
  ·exact .inr (.inl (by omega))
  ·exact .inl x
 have d1:(k.kind=6\/k.kind=7)/\aQ L k=true:=by simp at g6;exact⟨by omega,g6.2⟩
 have hd:(!dc L k.oid)=true->231=cD L i k md m/\L=fz L i k md m:=fun x=>mj (CL hl b c (.inr (.inr (sD.2.2 (by simpa using x))))) (by omega)
 have dd:0<=bV L k.oid->¬(aQ L k=false\/¬(k.kind=6\/k.kind=7)\/bV L k.oid<0):=fun h0=>by
  rw[d1.2];rintro(x|x|x)
  ·exact Bool.noConfusion x
  ·exact x d1.1
  ·omega
 have hd':(!dc L k.oid)=false->0<=bV L k.oid/\gE L k.oid=bV L k.oid:=fun x=>by
  have hb:dc L k.oid=true:=by simpa using x
  exact⟨sD.1.2 hb,Tp hb⟩
 obtain⟨n0,n1,_,n3⟩:=JV b1;rw[n3];refine⟨⟨fun h6=>⟨hd,fun x=>⟨fun y=>?_,fun y=>⟨⟨⟩,?_,rfl⟩⟩⟩,fun h6=>⟨fun h7=>⟨hd,fun x=>⟨fun y=>?_,fun y=>⟨fun z=>?_,fun z=>⟨⟨⟩,?_,rfl⟩⟩⟩⟩,fun h7=>?_⟩⟩,fun _ hF=>?_⟩
 ·obtain⟨p0,pv⟩:=hd' x;have h6':=VK h6;rw[pv]at y;refine mj (C2 hl b c (dd p0) (.inl ⟨h6',?_⟩)) (by omega)
  simp only[Bool.not_eq_true',Bool.or_eq_false_iff,Bool.and_eq_false_iff,decide_eq_false_iff_not]at y;exact⟨y.1,fun hh=>y.2.elim (fun u=>u hh.1) (fun u=>u hh.2)⟩
 ·obtain⟨p0,pv⟩:=hd' x;have h6':=VK h6;rw[pv]at y;simp only[Bool.not_eq_false',Bool.or_eq_true,VG,VH]at y;refine⟨hl,b1,b2,b3,c,d1.2,d1.1,p0,?_,fun hh=>by omega⟩
  rintro(⟨_,u,v⟩|⟨u,_⟩)
  ·exact y.elim u v
  ·omega
 ·obtain⟨p0,pv⟩:=hd' x;have h7':=VK h7;rw[pv]at y;exact mj (C2 hl b c (dd p0) (.inr ⟨h7',by simpa using y⟩)) (by omega)
 ·obtain⟨p0,pv⟩:=hd' x;have h7':=VK h7;rw[pv]at y;have y':bV L k.oid=2:=by simpa using y
  obtain⟨_,_,k2,_⟩:=qS (sD.1.1 p0);rw[k2]at z;refine mj (Dl hl b c (dd p0) ?_ (.inl ⟨h7',by simpa using z⟩)) (by omega)
  rintro(⟨u,_⟩|⟨_,u⟩)<;>omega
 ·obtain⟨p0,pv⟩:=hd' x;have h7':=VK h7;rw[pv]at y;have y':bV L k.oid=2:=by simpa using y
  obtain⟨_,_,k2,_⟩:=qS (sD.1.1 p0);rw[k2]at z;have z':(ak L k.oid.toNat free).calls<4294967295:=by simpa using z
  refine⟨hl,b1,b2,b3,c,d1.2,d1.1,p0,?_,fun hh=>by omega⟩
  rintro(⟨u,_⟩|⟨_,u⟩)<;>omega
 ·have h6':=VJ h6;have h7':=VJ h7;omega
 obtain⟨_,_,_,_,_,_,_,p0,f9,f10⟩:=hF;obtain⟨i0,i1,i2,i3⟩:=qS (sD.1.1 (by omega:0<=bV L i))
 rw[i2];refine⟨fun g7=>mj (Dl hl b c (dd p0) f9 (.inr ?_)) (by omega),fun g7=>?_⟩
 ·simp only[Bool.not_eq_true',Bool.or_eq_false_iff,Bool.not_eq_false',VH,decide_eq_false_iff_not]at g7;omega
 have hE:cD L i k md m=0:=by
  refine UU hl b c (dd p0) f9 ?_;simp only[Bool.not_eq_false',Bool.or_eq_true,Bool.not_eq_true',VH,decide_eq_false_iff_not]at g7;rintro(u|u)
  ·exact f10 u
  ·omega
 obtain⟨_,⟨⟨k0,k1⟩,_,_⟩,⟨hb,hb1⟩,⟨o1,l1⟩,⟨o2,l2⟩,⟨q1,q1c⟩,q2,hs32,hA⟩:=A6 hL hE;obtain⟨_,_,hend⟩:=Hc hL hE;refine⟨⟨fun h1=>⟨⟨⟩,hE,?_⟩,fun h1=>⟨⟨⟩,hE,?_⟩⟩,fun _ _=>⟨⟨⟨⟩,hE,?_⟩,fun _ _=>⟨⟨fun h7=>⟨?_,⟨⟩,hE,?_⟩,fun h7=>⟨⟨⟩,hE,?_⟩⟩,fun _ _=>⟨hsz,hs8 hs32,⟨by omega,by omega,by omega⟩,hE.symm,?_⟩⟩⟩⟩
 ·unfold jU;rw[VN (VK h1)];rfl
 ·unfold jU;rw[VM (VJ h1)]
 ·have e:=(Lb hL hb).2;rw[hb1,i2]at e;exact e
 ·have ho:=ep.1 (cH o1 k.oid.toNat (by omega))
  rw[fO k0 (by omega)]
  have:=ho.2.2.2.2.2.2.1;have:=ho.2.2.2.2.2.2.2.1;simp only[aM,cj];omega
 ·have h7':=VK h7;have hc:¬4294967295<=(ak L k.oid.toNat free).calls:=fun h=>f10 ⟨h7',h⟩
  have e:=(kr k0 (by omega) (KF (cH o1 k.oid.toNat (by omega)) q1 (by rw[q1c];omega))).1
  rw[fO k0 (by omega)]
  unfold hJ;rw[VN h7'];exact e
 ·unfold hJ;rw[VM (VJ h7)]
 ·rw[IK hs32,hE]at *;exact hend
theorem QM (L:List Sx.Obj) (i:Int) (k:Key) (md:Int) (m:bh) (hL:ar L) (hs:aw m.data):aj Tryz.prog 60 [.lp 0 0,.it .i64 i,.key k,.it .i64 md,qQ m] [.store tS eS L] (zt (.it .i64 (cD L i k md m)) (fz L i k md m)) (fun _ _=>False):=
 aL (inl:=(fun f=>f==91||f==92||f==97||f==99||f==126||f==127||f==94||f==93||f==100||f==129||f==96||f==128||f==98)) (ann:=(kV [(94,2,Rb 4),(60,2000015,TA [0,1,3,7,10,11,12,15,20] (fun(_:Unit)=> []) (fun _=> [(12,.blk 129 (.it .i64 (iF md)))]) (fun _=> []) (fun _=>ES L i k md m)),(60,2000019,TA [0,1,3,7,10,11,12,15,20] (fun(_:Unit)=> []) (fun _=> [(20,.blk tK (.key (jU L i md)))]) (fun _=> []) (fun _=>o7 L i k md m)),(60,2000020,TA [0,1,3,7,10,11,12,15,20] (fun(_:Unit)=> []) (fun _=> []) (fun _=> [(0,.store tS eS (gB L i md))]) (fun _=>o7 L i k md m)),(60,2000022,TA [0,1,3,7,10,11,12,15,20] (fun(_:Unit)=> []) (fun _=> []) (fun _=> [(0,.store tS eS (hJ L i k md))]) (fun _=>o7 L i k md m))])) (ab ba (ab eN (ab fR (ab fh (ab cF (ab pt (ab bn (ab tD au)))))))) (aE cw aA) (cZ jR) (RE L i k md m hL hs) (by kernel_rfl)
theorem Qv:oP Tryz.prog 60 SK:=
 zi (m:=fun x=>Ua.cn x 0) (oi Q9 (fun _=>rfl)) (fun _=>rfl) (fun _ _=>rfl) (fun x hs=>aL (inl:=(fun f=>f==91||f==92||f==97||f==99||f==126||f==127||f==94||f==93||f==100||f==129||f==96||f==128||f==98)) (ann:=aR) (ab qn (ab eN (ab fR (ab fh (ab cF (ab pt (ab bn (ab tD au)))))))) (aE cw aA) (cZ jR) (Mc x.1 x.2.1 x.2.2.1 x.2.2.2.1 hs) (by kernel_rfl)) (fun x hs=>aL (inl:=(fun f=>f==91||f==92||f==97||f==99||f==126||f==127||f==94||f==93||f==100||f==129||f==96||f==128||f==98)) (ann:=aR) (ab qn (ab eN (ab fR (ab fh (ab cF (ab pt (ab bn (ab tD au)))))))) (aE cw aA) (cZ jR) (ME x.1 x.2.1 x.2.2.1 x.2.2.2.1 hs) (by kernel_rfl)) fun L x hq=>QM L x.1 x.2.1 x.2.2.1 x.2.2.2.1 hq.1 hq.2
end Go.Proofs.YtlblcfaclmpekaaGreat
