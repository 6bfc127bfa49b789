import Derived.Test.YtlblcfaclmpekaaGreatCtQc
set_option linter.unusedSimpArgs false
set_option linter.unusedVariables false
namespace Go.Proofs.YtlblcfaclmpekaaGreat
open Go.Sx
set_option maxRecDepth 100000
theorem Fx:
 ∀(nid:Nat),some (V.mp nid)=some (V.mp nid)/\some [aC.mp IntKind.i64 [6,7] [V.fn 126 [],V.fn 127 []]]=some [aC.mp IntKind.i64
  [6,7] [V.fn 126 [],V.fn 127 []]]:=by
 exact fun nid=>⟨rfl,rfl⟩
theorem s4:dD Tryz.prog 95 (yN Vz VD):=rF (π:= [0]) (by decide) (fun _=>rfl) (bR (inl:=ca) (ann:=aV) ay aB Fx (by kernel_rfl))
theorem qq:dD Tryz.prog 36 CY:=LJ bd
theorem Nv (i:Int) (m:bk) (hs:az m.data):
 true=true/\1=je [] i m:=by
 exact⟨rfl,rfl⟩
theorem Mj (i:Int) (m:bk) (hs:az m.data):
 true=true/\1=je [] i m:=by
 exact⟨rfl,rfl⟩
theorem Rb (L:List Sx.Obj) (i:Int) (m:bk) (hL:aw L) (hs:az m.data):
 true=true/\((!decide (0<aj L))=true->1=je L i m/\L=j6 L i m)/\((!decide (0<aj L))=false->true=true/\aP IntKind.i64 (cC m.data)/\true=true/\((!decide (cC
  m.data<=32))=true->2=je L i m/\L=j6 L i m)/\((!decide (cC m.data<=32))=false->true=true/\true=true/\((!(decide (bT m.k0=0)&&(!aU m.k0||decide (bJ m.k0<
  aj L))))=true->2=je L i m/\L=j6 L i m)/\((!(decide (bT m.k0=0)&&(!aU m.k0||decide (bJ m.k0<aj L))))=false->true=true/\true=true/\((!(decide (bT
  m.k1=0)&&(!aU m.k1||decide (bJ m.k1<aj L))))=true->2=je L i m/\L=j6 L i m)/\((!(decide (bT m.k1=0)&&(!aU m.k1||decide (bJ m.k1<aj L))))=false
  ->true=true/\true=true/\((!(decide (bT m.k2=0)&&(!aU m.k2||decide (bJ m.k2<aj L))))=true->2=je L i m/\L=j6 L i m)/\((!(decide (bT m.k2=0)&&(!aU
  m.k2||decide (bJ m.k2<aj L))))=false->true=true/\((!(de L i&&decide (gz L i=1)))=true->230=je L i m/\L=j6 L i m)/\((!(de L i&&decide (gz L i=1)))=
  false->true=true/\true=true/\true=true/\true=true/\true=true/\aP IntKind.i64 (cC m.data)/\aP IntKind.u8 (cC m.data)/\As 1 64 64/\true=true/\0=je L i m/\bP L i
  (Obj.mk (aD L i).kind (aD L i).count (aD L i).calls (((((((aD L i).slots.put 2 (Key.mk 1 void.oid void.count void.call void.rights 1)).put 3 (Key.mk 1 void.oid void.count void.call
  void.rights m.code)).put 12 (ah L m.k0)).put 13 (ah L m.k1)).put 14 (ah L m.k2)).put 15 void) (GM (ev.put 0 (Qw (cC m.data))) (Int.toNat 1) (Int.toNat 64) m.data))=j6 L i
  m)))))):=by
 have no:∀e,je L i m=e->e≠0->e=je L i m/\L=j6 L i m:=fun e h he=>⟨h.symm,by unfold j6;rw[h,VQ he]⟩
 have hq1:(!decide (0<aj L))=true->an L=0:=fun h=>by
  have h1:¬0<aj L:=by simpa using h
  unfold aj at h1;omega
 have hq0:(!decide (0<aj L))=false->an L≠0:=fun h=>by
  have h1:0<aj L:=by simpa using h
  unfold aj at h1;omega
 have hsz:aP IntKind.i64 (cC m.data):=by unfold az at hs;simp only[aP,cj,cC];omega
 have hs8:cC m.data<=32->aP IntKind.u8 (cC m.data):=fun h=>by simp only[aP,cj,cC]at *;omega
 simp only[sG,ET];simp only[sE,pW,sR,ko,decide_true,Bool.and_true,Bool.not_true,Bool.or_false,Bool.not_false,Bool.false_eq_true,Bool.true_eq_false,false_implies,implies_true,true_implies,true_and,and_true,and_self];have mk:g8 L m=(decide (cC m.data<=32)&&bQ L m.k0&&bQ L m.k1&&bQ L m.k2):=rfl
 have bad:an L≠0->g8 L m=false->2=je L i m/\L=j6 L i m:=fun h hm=>no _ (by unfold je;rw[VQ h,VR hm]) (by omega)
 refine⟨fun h=>no _ (by unfold je;rw[VR (hq1 h)]) (by omega),fun h=>⟨hsz,fun g1=>bad (hq0 h) ?_,fun g1=>⟨fun g2=>bad (hq0 h) ?_,fun g2=>⟨fun g3=>bad (hq0 h) ?_,fun g3=>⟨fun g4=>bad (hq0 h) ?_,fun g4=>⟨fun g5=>no _ ?_ (by omega),fun g5=>?_⟩⟩⟩⟩⟩⟩
 ·rw[mk,show decide (cC m.data<=32)=false by simpa using g1];rfl
 ·rw[mk,show bQ L m.k0=false by simpa using g2];simp
 ·rw[mk,show bQ L m.k1=false by simpa using g3];simp
 ·rw[mk,show bQ L m.k2=false by simpa using g4];simp
 all_goals
  have hm:g8 L m=true:=by
   rw[mk,show decide (cC m.data<=32)=true by simpa using g1,show bQ L m.k0=true by simpa using g2,show bQ L m.k1=true by simpa using g3,show bQ L m.k2=true by simpa using g4];rfl
 ·unfold je;rw[VQ (hq0 h),VQ (by simp[hm]),VR (by simpa using g5)]
 have g5':bW L i=1:=by simpa using g5
 have hE:je L i m=0:=by unfold je;rw[VQ (hq0 h),VQ (by simp[hm]),VQ (by omega)]
 obtain⟨a,b,c,d⟩:=qV (rA.1.1 (by omega:0<=bW L i))
 refine⟨hsz,hs8 (CZ hm),⟨by omega,by omega,by omega⟩,hE.symm,?_⟩
 obtain⟨f0,f1,f2⟩:=zH (by have:=iN hL;omega:0<L.length) m
 have ho:=Cz (m:=lS L m) (a:=void) (cG hL i.toNat (by omega)) d f0 f1 f2 (xa (by omega))
 have e:Obj.mk (aD L i).kind (aD L i).count (aD L i).calls (((((((aD L i).slots.put 2 (Key.mk 1 void.oid void.count void.call void.rights 1)).put 3 (Key.mk 1 void.oid void.count void.call void.rights m.code)).put 12 (ah L m.k0)).put 13 (ah L m.k1)).put 14 (ah L m.k2)).put 15 void) (GM (ev.put 0 (Qw (cC m.data))) (Int.toNat 1) (Int.toNat 64) m.data)=vW (aD L i) (lS L m) void:=by
  rw[HF (CZ hm)];rfl
 rw[e,c,(j8 a b ho).1];unfold j6 DZ;rw[VR hE]
theorem QN (L:List Sx.Obj) (i:Int) (m:bk) (hL:aw L) (hs:az m.data):ak Tryz.prog 63 [.lp 0 0,.it .i64 i,rp m] [.store tS eS L] (Ae (.it .i64 (je L i m)) (j6 L i m)) (fun _ _=>False):=
 aN (inl:=(fun f=>f==91||f==94||f==93||f==100||f==129||f==96||f==128||f==98)) (ann:=(lr [(94,2,RI 4)])) (ae bd (ae eM (ae fO (ae fc (ae cF (ae pR ay)))))) (aF cx aB) (cY jM) (Rb L i m hL hs) (by kernel_rfl)
theorem QB:oM Tryz.prog 63 Sb:=
 zF (m:=fun x=>U6.cn x 0) (nW QA (fun _=>rfl)) (fun _=>rfl) (fun _ _=>rfl) (fun x hs=>aN (inl:=(fun f=>f==91||f==94||f==93||f==100||f==129||f==96||f==128||f==98)) (ann:=aV) (ae qq (ae eM (ae fO (ae fc (ae cF (ae pR ay)))))) (aF cx aB) (cY jM) (Nv x.1 x.2.1 hs) (by kernel_rfl)) (fun x hs=>aN (inl:=(fun f=>f==91||f==94||f==93||f==100||f==129||f==96||f==128||f==98)) (ann:=aV) (ae qq (ae eM (ae fO (ae fc (ae cF (ae pR ay)))))) (aF cx aB) (cY jM) (Mj x.1 x.2.1 hs) (by kernel_rfl)) fun L x hq=>QN L x.1 x.2.1 hq.1 hq.2
theorem OC (i:Int) (k:Key) (md:Int) (m:bk) (hs:az m.data):
 true=true/\1=cE [] i k md m:=by
 exact⟨rfl,rfl⟩
theorem Nz (i:Int) (k:Key) (md:Int) (m:bk) (hs:az m.data):
 true=true/\1=cE [] i k md m:=by
 exact⟨rfl,rfl⟩
theorem Po (L:List Sx.Obj) (i:Int) (k:Key) (md:Int) (m:bk) (hL:aw L) (hs:az m.data):
 true=true/\((!decide (0<aj L))=true->1=cE L i k md m/\L=fo L i k md m)/\((!decide (0<aj L))=false->true=true/\true=true/\((!(decide (md=1)||(decide (md=2)
  ||decide (md=3))))=true->2=cE L i k md m/\L=fo L i k md m)/\((!(decide (md=1)||(decide (md=2)||decide (md=3))))=false->true=true/\true=true/\((!(decide (bT k=
  0)&&(!aU k||decide (bJ k<aj L))))=true->2=cE L i k md m/\L=fo L i k md m)/\((!(decide (bT k=0)&&(!aU k||decide (bJ k<aj L))))=false->true=
  true/\aP IntKind.i64 (cC m.data)/\true=true/\((!decide (cC m.data<=32))=true->2=cE L i k md m/\L=fo L i k md m)/\((!decide (cC m.data<=32))=false->true=true/\true=
  true/\((!(decide (bT m.k0=0)&&(!aU m.k0||decide (bJ m.k0<aj L))))=true->2=cE L i k md m/\L=fo L i k md m)/\((!(decide (bT m.k0=0)&&(!aU m.k0||decide
  (bJ m.k0<aj L))))=false->true=true/\true=true/\((!(decide (bT m.k1=0)&&(!aU m.k1||decide (bJ m.k1<aj L))))=true->2=cE L i k md m/\L=fo L i k md m)
  /\((!(decide (bT m.k1=0)&&(!aU m.k1||decide (bJ m.k1<aj L))))=false->true=true/\true=true/\((!(decide (bT m.k2=0)&&(!aU m.k2||decide (bJ m.k2<aj
  L))))=true->2=cE L i k md m/\L=fo L i k md m)/\((!(decide (bT m.k2=0)&&(!aU m.k2||decide (bJ m.k2<aj L))))=false->true=true/\((!(de L i&&decide (gz L
  i=1)))=true->230=cE L i k md m/\L=fo L i k md m)/\((!(de L i&&decide (gz L i=1)))=false->true=true/\((!((decide (k.kind=6)||decide (k.kind=7))&&aT L k))=
  true->231=cE L i k md m/\L=fo L i k md m)/\((!((decide (k.kind=6)||decide (k.kind=7))&&aT L k))=false->((decide (k.kind=6)=true->true=true/\true=true/\((!de L
  k.oid)=true->231=cE L i k md m/\L=fo L i k md m)/\((!de L k.oid)=false->true=true/\((!(decide (gz L k.oid=0)||decide (md=3)&&decide (k.oid=i)))=true->232=cE
  L i k md m/\L=fo L i k md m)/\((!(decide (gz L k.oid=0)||decide (md=3)&&decide (k.oid=i)))=false->∃g:Unit,ER L i k md m/\i=i/\md=md/\L=L/\k=k/\m.code=m.code
  /\m.data=m.data/\ah L m.k0=ah L m.k0/\ah L m.k1=ah L m.k1/\ah L m.k2=ah L m.k2/\i=i/\k=k/\md=md/\vU (decide (md=1)) 2 (vU (decide (md=2)) 1 (vU
  (decide (md=3)) 0 0))=iy md/\aD L i=aD L i)))/\(decide (k.kind=6)=false->(decide (k.kind=7)=true->true=true/\true=true/\((!de L k.oid)=true->231=cE L i k md
  m/\L=fo L i k md m)/\((!de L k.oid)=false->true=true/\((!decide (gz L k.oid=2))=true->232=cE L i k md m/\L=fo L i k md m)/\((!decide (gz L k.oid=2))=false->
  true=true/\((!decide ((aD L k.oid).calls<4294967295))=true->233=cE L i k md m/\L=fo L i k md m)/\((!decide ((aD L k.oid).calls<4294967295))=false->∃g:Unit,ER L i k
  md m/\i=i/\md=md/\L=L/\k=k/\m.code=m.code/\m.data=m.data/\ah L m.k0=ah L m.k0/\ah L m.k1=ah L m.k1/\ah L m.k2=ah L m.k2/\i=i/\k=k/\md=md/\
  vU (decide (md=1)) 2 (vU (decide (md=2)) 1 (vU (decide (md=3)) 0 0))=iy md/\aD L i=aD L i))))/\(decide (k.kind=7)=false->False)))/\∀(g:Unit),ER L i k md m->true
  =true/\((!(!decide (md=1)||decide ((aD L i).calls<4294967295)))=true->233=cE L i k md m/\L=fo L i k md m)/\((!(!decide (md=1)||decide ((aD L i).calls<4294967295)))=
  false->((decide (md=1)=true->∃g:Unit,oN L i k md m/\i=i/\md=md/\L=L/\k=k/\m.code=m.code/\m.data=m.data/\ah L m.k0=ah L m.k0/\ah L m.k1=ah L m.k1/\
  ah L m.k2=ah L m.k2/\i=i/\k=k/\md=md/\iy md=iy md/\aD L i=aD L i/\Key.mk 7 i (aD L i).count (aD L i).calls void.rights void.value=jX L i md)/\(decide
  (md=1)=false->∃g:Unit,oN L i k md m/\i=i/\md=md/\L=L/\k=k/\m.code=m.code/\m.data=m.data/\ah L m.k0=ah L m.k0/\ah L m.k1=ah L m.k1/\ah L m.k2=
  ah L m.k2/\i=i/\k=k/\md=md/\iy md=iy md/\aD L i=aD L i/\void=jX L i md))/\∀(g:Unit),oN L i k md m->(true=true/\true=true/\true=true/\true=true/\
  ∃g:Unit,oN L i k md m/\i=i/\md=md/\bP L i (Obj.mk (aD L i).kind (aD L i).count (aD L i).calls ((aD L i).slots.put 2 (Key.mk 1 void.oid void.count void.call void.rights
  (iy md))) (aD L i).bytes)=gx L i md/\k=k/\m.code=m.code/\m.data=m.data/\ah L m.k0=ah L m.k0/\ah L m.k1=ah L m.k1/\ah L m.k2=ah L m.k2/\i=i/\k=
  k/\md=md/\iy md=iy md/\aD L i=aD L i/\jX L i md=jX L i md)/\∀(g:Unit),oN L i k md m->((decide (k.kind=7)=true->true=true/\true=true/\aP IntKind.i64
  ((aD (gx L i md) k.oid).calls+1)/\true=true/\∃g:Unit,oN L i k md m/\i=i/\md=md/\bP (gx L i md) k.oid (Obj.mk (aD (gx L i md) k.oid).kind (aD (gx L i md)
  k.oid).count ((aD (gx L i md) k.oid).calls+1) (aD (gx L i md) k.oid).slots (aD (gx L i md) k.oid).bytes)=gX L i k md/\k=k/\m.code=m.code/\m.data=m.data/\ah L m.k0
  =ah L m.k0/\ah L m.k1=ah L m.k1/\ah L m.k2=ah L m.k2/\i=i/\k=k/\md=md/\iy md=iy md/\aD L i=aD L i/\jX L i md=jX L i md)/\(decide (k.kind
  =7)=false->∃g:Unit,oN L i k md m/\i=i/\md=md/\gx L i md=gX L i k md/\k=k/\m.code=m.code/\m.data=m.data/\ah L m.k0=ah L m.k0/\ah L m.k1=ah L m.k1
  /\ah L m.k2=ah L m.k2/\i=i/\k=k/\md=md/\iy md=iy md/\aD L i=aD L i/\jX L i md=jX L i md))/\∀(g:Unit),oN L i k md m->true=true/\true=true/\
  true=true/\true=true/\true=true/\aP IntKind.i64 (cC m.data)/\aP IntKind.u8 (cC m.data)/\As 1 64 64/\true=true/\0=cE L i k md m/\bP (gX L i k md) k.oid (Obj.mk (aD
  (gX L i k md) k.oid).kind (aD (gX L i k md) k.oid).count (aD (gX L i k md) k.oid).calls (((((((aD (gX L i k md) k.oid).slots.put 2 (Key.mk 1 void.oid void.count void.call
  void.rights 1)).put 3 (Key.mk 1 void.oid void.count void.call void.rights m.code)).put 12 (ah L m.k0)).put 13 (ah L m.k1)).put 14 (ah L m.k2)).put 15 (jX L i md)) (GM (ev.put 0
  (Qw (cC m.data))) (Int.toNat 1) (Int.toNat 64) m.data))=fo L i k md m)))))))))):=by
 have hq1:(!decide (0<aj L))=true->an L=0:=fun h=>by
  have h1:¬0<aj L:=by simpa using h
  unfold aj at h1;omega
 have hq0:(!decide (0<aj L))=false->an L≠0:=fun h=>by
  have h1:0<aj L:=by simpa using h
  unfold aj at h1;omega
 have hsz:aP IntKind.i64 (cC m.data):=by unfold az at hs;simp only[aP,cj,cC];omega
 have hs8:cC m.data<=32->aP IntKind.u8 (cC m.data):=fun h=>by simp only[aP,cj,cC]at *;omega
 simp only[sG,ET];simp only[sE,pW,sR,ko,decide_true,Bool.and_true,Bool.not_true,Bool.or_false,Bool.not_false,Bool.false_eq_true,Bool.true_eq_false,false_implies,implies_true,true_implies,true_and,and_true,and_self];have mk:g8 L m=(decide (cC m.data<=32)&&bQ L m.k0&&bQ L m.k1&&bQ L m.k2):=rfl
 refine⟨fun h=>mf (SH (hq1 h)) (by omega),fun h=>⟨fun c1=>mf (Dm (hq0 h) (.inl ?_)) (by omega),fun c1=>⟨fun c2=>mf (Dm (hq0 h) (.inr (.inl ?_))) (by omega),fun c2=>⟨hsz,fun g1=>mf (Dm (hq0 h) (.inr (.inr ?_))) (by omega),fun g1=>⟨fun g2=>mf (Dm (hq0 h) (.inr (.inr ?_))) (by omega),fun g2=>⟨fun g3=>mf (Dm (hq0 h) (.inr (.inr ?_))) (by omega),fun g3=>⟨fun g4=>mf (Dm (hq0 h) (.inr (.inr ?_))) (by omega),fun g4=>?_⟩⟩⟩⟩⟩⟩⟩
 ·simp at c1;omega
 ·simpa using c2
 ·rw[mk,show decide (cC m.data<=32)=false by simpa using g1];rfl
 ·rw[mk,show bQ L m.k0=false by simpa using g2];simp
 ·rw[mk,show bQ L m.k1=false by simpa using g3];simp
 ·rw[mk,show bQ L m.k2=false by simpa using g4];simp
 have hl:=hq0 h;have b1:1<=md/\md<=3:=by simp at c1;omega
 have b2:bQ L k=true:=by simpa using c2
 have b3:g8 L m=true:=by
  rw[mk,show decide (cC m.data<=32)=true by simpa using g1,show bQ L m.k0=true by simpa using g2,show bQ L m.k1=true by simpa using g3,show bQ L m.k2=true by simpa using g4];rfl
 have b:¬(¬(1<=md/\md<=3)\/bQ L k=false\/g8 L m=false):=by
  rw[b2,b3];rintro(x|x|x)
  ·exact x b1
  ·exact Bool.noConfusion x
  ·exact Bool.noConfusion x
 refine⟨fun g5=>mf (JW hl b (by simpa using g5)) (by omega),fun g5=>?_⟩
 have c:bW L i=1:=by simpa using g5
 refine⟨fun g6=>mf (Dc hl b c ?_) (by omega),fun g6=>?_⟩
 ·simp only[Bool.not_eq_true',Bool.and_eq_false_iff,Bool.or_eq_false_iff,decide_eq_false_iff_not]at g6;rcases g6 with⟨x,y⟩|x
  ·exact .inr (.inl (by omega))
  ·exact .inl x
 have d1:(k.kind=6\/k.kind=7)/\aT L k=true:=by simp at g6;exact⟨by omega,g6.2⟩
 have hd:(!de L k.oid)=true->231=cE L i k md m/\L=fo L i k md m:=fun x=>mf (Dc hl b c (.inr (.inr (rA.2.2 (by simpa using x))))) (by omega)
 have dd:0<=bW L k.oid->¬(aT L k=false\/¬(k.kind=6\/k.kind=7)\/bW L k.oid<0):=fun h0=>by
  rw[d1.2];rintro(x|x|x)
  ·exact Bool.noConfusion x
  ·exact x d1.1
  ·omega
 have hd':(!de L k.oid)=false->0<=bW L k.oid/\gz L k.oid=bW L k.oid:=fun x=>by
  have hb:de L k.oid=true:=by simpa using x
  exact⟨rA.1.2 hb,SM hb⟩
 obtain⟨n0,n1,_,n3⟩:=Hq b1;rw[n3];refine⟨⟨fun h6=>⟨hd,fun x=>⟨fun y=>?_,fun y=>⟨⟨⟩,?_,rfl⟩⟩⟩,fun h6=>⟨fun h7=>⟨hd,fun x=>⟨fun y=>?_,fun y=>⟨fun z=>?_,fun z=>⟨⟨⟩,?_,rfl⟩⟩⟩⟩,fun h7=>?_⟩⟩,fun _ hF=>?_⟩
 ·obtain⟨p0,pv⟩:=hd' x;have h6':=VO h6;rw[pv]at y;refine mf (Dk hl b c (dd p0) (.inl ⟨h6',?_⟩)) (by omega)
  simp only[Bool.not_eq_true',Bool.or_eq_false_iff,Bool.and_eq_false_iff,decide_eq_false_iff_not]at y;exact⟨y.1,fun hh=>y.2.elim (fun u=>u hh.1) (fun u=>u hh.2)⟩
 ·obtain⟨p0,pv⟩:=hd' x;have h6':=VO h6;rw[pv]at y;simp only[Bool.not_eq_false',Bool.or_eq_true,VK,VL]at y;refine⟨hl,b1,b2,b3,c,d1.2,d1.1,p0,?_,fun hh=>by omega⟩
  rintro(⟨_,u,v⟩|⟨u,_⟩)
  ·exact y.elim u v
  ·omega
 ·obtain⟨p0,pv⟩:=hd' x;have h7':=VO h7;rw[pv]at y;exact mf (Dk hl b c (dd p0) (.inr ⟨h7',by simpa using y⟩)) (by omega)
 ·obtain⟨p0,pv⟩:=hd' x;have h7':=VO h7;rw[pv]at y;have y':bW L k.oid=2:=by simpa using y
  obtain⟨_,_,k2,_⟩:=qV (rA.1.1 p0);rw[k2]at z;refine mf (Di hl b c (dd p0) ?_ (.inl ⟨h7',by simpa using z⟩)) (by omega)
  rintro(⟨u,_⟩|⟨_,u⟩)<;>omega
 ·obtain⟨p0,pv⟩:=hd' x;have h7':=VO h7;rw[pv]at y;have y':bW L k.oid=2:=by simpa using y
  obtain⟨_,_,k2,_⟩:=qV (rA.1.1 p0);rw[k2]at z;have z':(aq L k.oid.toNat free).calls<4294967295:=by simpa using z
  refine⟨hl,b1,b2,b3,c,d1.2,d1.1,p0,?_,fun hh=>by omega⟩
  rintro(⟨u,_⟩|⟨_,u⟩)<;>omega
 ·have h6':=VN h6;have h7':=VN h7;omega
 obtain⟨_,_,_,_,_,_,_,p0,f9,f10⟩:=hF;obtain⟨i0,i1,i2,i3⟩:=qV (rA.1.1 (by omega:0<=bW L i))
 rw[i2];refine⟨fun g7=>mf (Di hl b c (dd p0) f9 (.inr ?_)) (by omega),fun g7=>?_⟩
 ·simp only[Bool.not_eq_true',Bool.or_eq_false_iff,Bool.not_eq_false',VL,decide_eq_false_iff_not]at g7;omega
 have hE:cE L i k md m=0:=by
  refine UA hl b c (dd p0) f9 ?_;simp only[Bool.not_eq_false',Bool.or_eq_true,Bool.not_eq_true',VL,decide_eq_false_iff_not]at g7;rintro(u|u)
  ·exact f10 u
  ·omega
 obtain⟨_,⟨⟨k0,k1⟩,_,_⟩,⟨hb,hb1⟩,⟨o1,l1⟩,⟨o2,l2⟩,⟨q1,q1c⟩,q2,hs32,hA⟩:=Cd hL hE;obtain⟨_,_,hend⟩:=KA hL hE;refine⟨⟨fun h1=>⟨⟨⟩,hE,?_⟩,fun h1=>⟨⟨⟩,hE,?_⟩⟩,fun _ _=>⟨⟨⟨⟩,hE,?_⟩,fun _ _=>⟨⟨fun h7=>⟨?_,⟨⟩,hE,?_⟩,fun h7=>⟨⟨⟩,hE,?_⟩⟩,fun _ _=>⟨hsz,hs8 hs32,⟨by omega,by omega,by omega⟩,hE.symm,?_⟩⟩⟩⟩
 ·unfold jX;rw[VR (VO h1)];rfl
 ·unfold jX;rw[VQ (VN h1)]
 ·have e:=(Jd hL hb).2;rw[hb1,i2]at e;exact e
 ·have ho:=eo.1 (cG o1 k.oid.toNat (by omega))
  rw[fK k0 (by omega)]
  have:=ho.2.2.2.2.2.2.1;have:=ho.2.2.2.2.2.2.2.1;simp only[aP,cj];omega
 ·have h7':=VO h7;have hc:¬4294967295<=(aq L k.oid.toNat free).calls:=fun h=>f10 ⟨h7',h⟩
  have e:=(j8 k0 (by omega) (KN (cG o1 k.oid.toNat (by omega)) q1 (by rw[q1c];omega))).1
  rw[fK k0 (by omega)]
  unfold gX;rw[VR h7'];exact e
 ·unfold gX;rw[VQ (VN h7)]
 ·rw[HF hs32,hE]at *;exact hend
theorem Qy (L:List Sx.Obj) (i:Int) (k:Key) (md:Int) (m:bk) (hL:aw L) (hs:az m.data):ak Tryz.prog 60 [.lp 0 0,.it .i64 i,.key k,.it .i64 md,rp m] [.store tS eS L] (Ae (.it .i64 (cE L i k md m)) (fo L i k md m)) (fun _ _=>False):=
 aN (inl:=(fun f=>f==91||f==92||f==97||f==99||f==126||f==127||f==94||f==93||f==100||f==129||f==96||f==128||f==98)) (ann:=(lr [(94,2,RI 4),(60,2000015,TK [0,1,3,7,10,11,12,15,20] (fun(_:Unit)=> []) (fun _=> [(12,.blk 129 (.it .i64 (iy md)))]) (fun _=> []) (fun _=>ER L i k md m)),(60,2000019,TK [0,1,3,7,10,11,12,15,20] (fun(_:Unit)=> []) (fun _=> [(20,.blk tK (.key (jX L i md)))]) (fun _=> []) (fun _=>oN L i k md m)),(60,2000020,TK [0,1,3,7,10,11,12,15,20] (fun(_:Unit)=> []) (fun _=> []) (fun _=> [(0,.store tS eS (gx L i md))]) (fun _=>oN L i k md m)),(60,2000022,TK [0,1,3,7,10,11,12,15,20] (fun(_:Unit)=> []) (fun _=> []) (fun _=> [(0,.store tS eS (gX L i k md))]) (fun _=>oN L i k md m))])) (ae bd (ae eM (ae fO (ae fc (ae cF (ae pR (ae br (ae s4 ay)))))))) (aF cx aB) (cY jM) (Po L i k md m hL hs) (by kernel_rfl)
theorem PV:oM Tryz.prog 60 Sc:=
 zF (m:=fun x=>UH.cn x 0) (nW Qj (fun _=>rfl)) (fun _=>rfl) (fun _ _=>rfl) (fun x hs=>aN (inl:=(fun f=>f==91||f==92||f==97||f==99||f==126||f==127||f==94||f==93||f==100||f==129||f==96||f==128||f==98)) (ann:=aV) (ae qq (ae eM (ae fO (ae fc (ae cF (ae pR (ae br (ae s4 ay)))))))) (aF cx aB) (cY jM) (OC x.1 x.2.1 x.2.2.1 x.2.2.2.1 hs) (by kernel_rfl)) (fun x hs=>aN (inl:=(fun f=>f==91||f==92||f==97||f==99||f==126||f==127||f==94||f==93||f==100||f==129||f==96||f==128||f==98)) (ann:=aV) (ae qq (ae eM (ae fO (ae fc (ae cF (ae pR (ae br (ae s4 ay)))))))) (aF cx aB) (cY jM) (Nz x.1 x.2.1 x.2.2.1 x.2.2.2.1 hs) (by kernel_rfl)) fun L x hq=>Qy L x.1 x.2.1 x.2.2.1 x.2.2.2.1 hq.1 hq.2
end Go.Proofs.YtlblcfaclmpekaaGreat
