import Derived.Test.YtlblcfaclmpekaaGreatCtQc
set_option linter.unusedSimpArgs false
set_option linter.unusedVariables false
namespace Go.Proofs.YtlblcfaclmpekaaGreat
open Go.Sx
set_option maxRecDepth 100000
theorem FU:
 ∀(nid:Nat),some (V.mp nid)=some (V.mp nid)/\some [aA.mp IntKind.i64 [6,7] [V.fn 126 [],V.fn 127 []]]=some [aA.mp IntKind.i64
  [6,7] [V.fn 126 [],V.fn 127 []]]:=by
 exact fun nid=>⟨rfl,rfl⟩
theorem sZ:dA Tryz.prog 95 (x9 UH UI):=rX (π:= [0]) (by decide) (fun _=>rfl) (bL (inl:=cw) (ann:=aQ) aq ay FU (by kernel_rfl))
theorem nV:dA Tryz.prog 36 Cu:=Nz aW
theorem La (i:Int) (m:bd) (hs:au m.data):
 true=true/\1=iN [] i m:=by
 exact⟨rfl,rfl⟩
theorem Mg (i:Int) (m:bd) (hs:au m.data):
 true=true/\1=iN [] i m:=by
 exact⟨rfl,rfl⟩
theorem QP (L:List Sx.Obj) (i:Int) (m:bd) (hL:an L) (hs:au m.data):
 true=true/\((!decide (0<ah L))=true->1=iN L i m/\L=jO L i m)/\((!decide (0<ah L))=false->true=true/\aL IntKind.i64 (ca m.data)/\true=true/\((!decide (ca
  m.data<=32))=true->2=iN L i m/\L=jO L i m)/\((!decide (ca m.data<=32))=false->true=true/\true=true/\((!(decide (bM m.k0=0)&&(!aN m.k0||decide (bE m.k0<
  ah L))))=true->2=iN L i m/\L=jO L i m)/\((!(decide (bM m.k0=0)&&(!aN m.k0||decide (bE m.k0<ah L))))=false->true=true/\true=true/\((!(decide (bM
  m.k1=0)&&(!aN m.k1||decide (bE m.k1<ah L))))=true->2=iN L i m/\L=jO L i m)/\((!(decide (bM m.k1=0)&&(!aN m.k1||decide (bE m.k1<ah L))))=false
  ->true=true/\true=true/\((!(decide (bM m.k2=0)&&(!aN m.k2||decide (bE m.k2<ah L))))=true->2=iN L i m/\L=jO L i m)/\((!(decide (bM m.k2=0)&&(!aN
  m.k2||decide (bE m.k2<ah L))))=false->true=true/\((!(cR L i&&decide (gn L i=1)))=true->230=iN L i m/\L=jO L i m)/\((!(cR L i&&decide (gn L i=1)))=
  false->true=true/\true=true/\true=true/\true=true/\true=true/\aL IntKind.i64 (ca m.data)/\aL IntKind.u8 (ca m.data)/\Ax 1 64 64/\true=true/\0=iN L i m/\bO L i
  (Obj.mk (az L i).kind (az L i).count (az L i).calls (((((((az L i).slots.put 2 (Key.mk 1 void.oid void.count void.call void.rights 1)).put 3 (Key.mk 1 void.oid void.count void.call
  void.rights m.code)).put 12 (ae L m.k0)).put 13 (ae L m.k1)).put 14 (ae L m.k2)).put 15 void) (Ge (ej.put 0 (P7 (ca m.data))) (Int.toNat 1) (Int.toNat 64) m.data))=jO L i
  m)))))):=by
 have no:∀e,iN L i m=e->e≠0->e=iN L i m/\L=jO L i m:=fun e h he=>⟨h.symm,by unfold jO;rw[h,UZ he]⟩
 have hq1:(!decide (0<ah L))=true->ar L=0:=fun h=>by
  have h1:¬0<ah L:=by simpa using h
  unfold ah at h1;omega
 have hq0:(!decide (0<ah L))=false->ar L≠0:=fun h=>by
  have h1:0<ah L:=by simpa using h
  unfold ah at h1;omega
 have hsz:aL IntKind.i64 (ca m.data):=by unfold au at hs;simp only[aL,b7,ca];omega
 have hs8:ca m.data<=32->aL IntKind.u8 (ca m.data):=fun h=>by simp only[aL,b7,ca]at *;omega
 simp only[rN,D2];simp only[r8,pR,r7,pY,decide_true,Bool.and_true,Bool.not_true,Bool.or_false,Bool.not_false,Bool.false_eq_true,Bool.true_eq_false,false_implies,implies_true,true_implies,true_and,and_true,and_self];have mk:gR L m=(decide (ca m.data<=32)&&bJ L m.k0&&bJ L m.k1&&bJ L m.k2):=rfl
 have bad:ar L≠0->gR L m=false->2=iN L i m/\L=jO L i m:=fun h hm=>no _ (by unfold iN;rw[UZ h,U0 hm]) (by omega)
 refine⟨fun h=>no _ (by unfold iN;rw[U0 (hq1 h)]) (by omega),fun h=>⟨hsz,fun g1=>bad (hq0 h) ?_,fun g1=>⟨fun g2=>bad (hq0 h) ?_,fun g2=>⟨fun g3=>bad (hq0 h) ?_,fun g3=>⟨fun g4=>bad (hq0 h) ?_,fun g4=>⟨fun g5=>no _ ?_ (by omega),fun g5=>?_⟩⟩⟩⟩⟩⟩
 ·rw[mk,show decide (ca m.data<=32)=false by simpa using g1];rfl
 ·rw[mk,show bJ L m.k0=false by simpa using g2];simp
 ·rw[mk,show bJ L m.k1=false by simpa using g3];simp
 ·rw[mk,show bJ L m.k2=false by simpa using g4];simp
 all_goals
  have hm:gR L m=true:=by
   rw[mk,show decide (ca m.data<=32)=true by simpa using g1,show bJ L m.k0=true by simpa using g2,show bJ L m.k1=true by simpa using g3,show bJ L m.k2=true by simpa using g4];rfl
 ·unfold iN;rw[UZ (hq0 h),UZ (by simp[hm]),U0 (by simpa using g5)]
 have g5':bP L i=1:=by simpa using g5
 have hE:iN L i m=0:=by unfold iN;rw[UZ (hq0 h),UZ (by simp[hm]),UZ (by omega)]
 obtain⟨a,b,c,d⟩:=qy (rA.1.1 (by omega:0<=bP L i))
 refine⟨hsz,hs8 (C9 hm),⟨by omega,by omega,by omega⟩,hE.symm,?_⟩
 obtain⟨f0,f1,f2⟩:=zt (by have:=jy hL;omega:0<L.length) m
 have ho:=C5 (m:=lv L m) (a:=void) (cz hL i.toNat (by omega)) d f0 f1 f2 (wT (by omega))
 have e:Obj.mk (az L i).kind (az L i).count (az L i).calls (((((((az L i).slots.put 2 (Key.mk 1 void.oid void.count void.call void.rights 1)).put 3 (Key.mk 1 void.oid void.count void.call void.rights m.code)).put 12 (ae L m.k0)).put 13 (ae L m.k1)).put 14 (ae L m.k2)).put 15 void) (Ge (ej.put 0 (P7 (ca m.data))) (Int.toNat 1) (Int.toNat 64) m.data)=vu (az L i) (lv L m) void:=by
  rw[KU (C9 hm)];rfl
 rw[e,c,(jV a b ho).1];unfold jO D8;rw[U0 hE]
theorem O9 (L:List Sx.Obj) (i:Int) (m:bd) (hL:an L) (hs:au m.data):aj Tryz.prog 63 [.lp 0 0,.it .i64 i,qv m] [.store tS eS L] (yZ (.it .i64 (iN L i m)) (jO L i m)) (fun _ _=>False):=
 aJ (inl:=(fun f=>f==91||f==94||f==93||f==100||f==129||f==96||f==128||f==98)) (ann:=(kW [(94,2,Oo 4)])) (ab aW (ab ez (ab fJ (ab eV (ab cy (ab oX aq)))))) (aB bY ay) (cN jA) (QP L i m hL hs) (by kernel_rfl)
theorem Pm:p5 Tryz.prog 63 Sz:=
 yG (m:=fun x=>TO.cn x 0) (nU QQ (fun _=>rfl)) (fun _=>rfl) (fun _ _=>rfl) (fun x hs=>aJ (inl:=(fun f=>f==91||f==94||f==93||f==100||f==129||f==96||f==128||f==98)) (ann:=aQ) (ab nV (ab ez (ab fJ (ab eV (ab cy (ab oX aq)))))) (aB bY ay) (cN jA) (La x.1 x.2.1 hs) (by kernel_rfl)) (fun x hs=>aJ (inl:=(fun f=>f==91||f==94||f==93||f==100||f==129||f==96||f==128||f==98)) (ann:=aQ) (ab nV (ab ez (ab fJ (ab eV (ab cy (ab oX aq)))))) (aB bY ay) (cN jA) (Mg x.1 x.2.1 hs) (by kernel_rfl)) fun L x hq=>O9 L x.1 x.2.1 hq.1 hq.2
theorem NW (i:Int) (k:Key) (md:Int) (m:bd) (hs:au m.data):
 true=true/\1=cm [] i k md m:=by
 exact⟨rfl,rfl⟩
theorem LZ (i:Int) (k:Key) (md:Int) (m:bd) (hs:au m.data):
 true=true/\1=cm [] i k md m:=by
 exact⟨rfl,rfl⟩
theorem QV (L:List Sx.Obj) (i:Int) (k:Key) (md:Int) (m:bd) (hL:an L) (hs:au m.data):
 true=true/\((!decide (0<ah L))=true->1=cm L i k md m/\L=fh L i k md m)/\((!decide (0<ah L))=false->true=true/\true=true/\((!(decide (md=1)||(decide (md=2)
  ||decide (md=3))))=true->2=cm L i k md m/\L=fh L i k md m)/\((!(decide (md=1)||(decide (md=2)||decide (md=3))))=false->true=true/\true=true/\((!(decide (bM k=
  0)&&(!aN k||decide (bE k<ah L))))=true->2=cm L i k md m/\L=fh L i k md m)/\((!(decide (bM k=0)&&(!aN k||decide (bE k<ah L))))=false->true=
  true/\aL IntKind.i64 (ca m.data)/\true=true/\((!decide (ca m.data<=32))=true->2=cm L i k md m/\L=fh L i k md m)/\((!decide (ca m.data<=32))=false->true=true/\true=
  true/\((!(decide (bM m.k0=0)&&(!aN m.k0||decide (bE m.k0<ah L))))=true->2=cm L i k md m/\L=fh L i k md m)/\((!(decide (bM m.k0=0)&&(!aN m.k0||decide
  (bE m.k0<ah L))))=false->true=true/\true=true/\((!(decide (bM m.k1=0)&&(!aN m.k1||decide (bE m.k1<ah L))))=true->2=cm L i k md m/\L=fh L i k md m)
  /\((!(decide (bM m.k1=0)&&(!aN m.k1||decide (bE m.k1<ah L))))=false->true=true/\true=true/\((!(decide (bM m.k2=0)&&(!aN m.k2||decide (bE m.k2<ah
  L))))=true->2=cm L i k md m/\L=fh L i k md m)/\((!(decide (bM m.k2=0)&&(!aN m.k2||decide (bE m.k2<ah L))))=false->true=true/\((!(cR L i&&decide (gn L
  i=1)))=true->230=cm L i k md m/\L=fh L i k md m)/\((!(cR L i&&decide (gn L i=1)))=false->true=true/\((!((decide (k.kind=6)||decide (k.kind=7))&&aO L k))=
  true->231=cm L i k md m/\L=fh L i k md m)/\((!((decide (k.kind=6)||decide (k.kind=7))&&aO L k))=false->((decide (k.kind=6)=true->true=true/\true=true/\((!cR L
  k.oid)=true->231=cm L i k md m/\L=fh L i k md m)/\((!cR L k.oid)=false->true=true/\((!(decide (gn L k.oid=0)||decide (md=3)&&decide (k.oid=i)))=true->232=cm
  L i k md m/\L=fh L i k md m)/\((!(decide (gn L k.oid=0)||decide (md=3)&&decide (k.oid=i)))=false->∃g:Unit,DX L i k md m/\i=i/\md=md/\L=L/\k=k/\m.code=m.code
  /\m.data=m.data/\ae L m.k0=ae L m.k0/\ae L m.k1=ae L m.k1/\ae L m.k2=ae L m.k2/\i=i/\k=k/\md=md/\vn (decide (md=1)) 2 (vn (decide (md=2)) 1 (vn
  (decide (md=3)) 0 0))=hJ md/\az L i=az L i)))/\(decide (k.kind=6)=false->(decide (k.kind=7)=true->true=true/\true=true/\((!cR L k.oid)=true->231=cm L i k md
  m/\L=fh L i k md m)/\((!cR L k.oid)=false->true=true/\((!decide (gn L k.oid=2))=true->232=cm L i k md m/\L=fh L i k md m)/\((!decide (gn L k.oid=2))=false->
  true=true/\((!decide ((az L k.oid).calls<4294967295))=true->233=cm L i k md m/\L=fh L i k md m)/\((!decide ((az L k.oid).calls<4294967295))=false->∃g:Unit,DX L i k
  md m/\i=i/\md=md/\L=L/\k=k/\m.code=m.code/\m.data=m.data/\ae L m.k0=ae L m.k0/\ae L m.k1=ae L m.k1/\ae L m.k2=ae L m.k2/\i=i/\k=k/\md=md/\
  vn (decide (md=1)) 2 (vn (decide (md=2)) 1 (vn (decide (md=3)) 0 0))=hJ md/\az L i=az L i))))/\(decide (k.kind=7)=false->False)))/\∀(g:Unit),DX L i k md m->true
  =true/\((!(!decide (md=1)||decide ((az L i).calls<4294967295)))=true->233=cm L i k md m/\L=fh L i k md m)/\((!(!decide (md=1)||decide ((az L i).calls<4294967295)))=
  false->((decide (md=1)=true->∃g:Unit,pd L i k md m/\i=i/\md=md/\L=L/\k=k/\m.code=m.code/\m.data=m.data/\ae L m.k0=ae L m.k0/\ae L m.k1=ae L m.k1/\
  ae L m.k2=ae L m.k2/\i=i/\k=k/\md=md/\hJ md=hJ md/\az L i=az L i/\Key.mk 7 i (az L i).count (az L i).calls void.rights void.value=jH L i md)/\(decide
  (md=1)=false->∃g:Unit,pd L i k md m/\i=i/\md=md/\L=L/\k=k/\m.code=m.code/\m.data=m.data/\ae L m.k0=ae L m.k0/\ae L m.k1=ae L m.k1/\ae L m.k2=
  ae L m.k2/\i=i/\k=k/\md=md/\hJ md=hJ md/\az L i=az L i/\void=jH L i md))/\∀(g:Unit),pd L i k md m->(true=true/\true=true/\true=true/\true=true/\
  ∃g:Unit,pd L i k md m/\i=i/\md=md/\bO L i (Obj.mk (az L i).kind (az L i).count (az L i).calls ((az L i).slots.put 2 (Key.mk 1 void.oid void.count void.call void.rights
  (hJ md))) (az L i).bytes)=gr L i md/\k=k/\m.code=m.code/\m.data=m.data/\ae L m.k0=ae L m.k0/\ae L m.k1=ae L m.k1/\ae L m.k2=ae L m.k2/\i=i/\k=
  k/\md=md/\hJ md=hJ md/\az L i=az L i/\jH L i md=jH L i md)/\∀(g:Unit),pd L i k md m->((decide (k.kind=7)=true->true=true/\true=true/\aL IntKind.i64
  ((az (gr L i md) k.oid).calls+1)/\true=true/\∃g:Unit,pd L i k md m/\i=i/\md=md/\bO (gr L i md) k.oid (Obj.mk (az (gr L i md) k.oid).kind (az (gr L i md)
  k.oid).count ((az (gr L i md) k.oid).calls+1) (az (gr L i md) k.oid).slots (az (gr L i md) k.oid).bytes)=gS L i k md/\k=k/\m.code=m.code/\m.data=m.data/\ae L m.k0
  =ae L m.k0/\ae L m.k1=ae L m.k1/\ae L m.k2=ae L m.k2/\i=i/\k=k/\md=md/\hJ md=hJ md/\az L i=az L i/\jH L i md=jH L i md)/\(decide (k.kind
  =7)=false->∃g:Unit,pd L i k md m/\i=i/\md=md/\gr L i md=gS L i k md/\k=k/\m.code=m.code/\m.data=m.data/\ae L m.k0=ae L m.k0/\ae L m.k1=ae L m.k1
  /\ae L m.k2=ae L m.k2/\i=i/\k=k/\md=md/\hJ md=hJ md/\az L i=az L i/\jH L i md=jH L i md))/\∀(g:Unit),pd L i k md m->true=true/\true=true/\
  true=true/\true=true/\true=true/\aL IntKind.i64 (ca m.data)/\aL IntKind.u8 (ca m.data)/\Ax 1 64 64/\true=true/\0=cm L i k md m/\bO (gS L i k md) k.oid (Obj.mk (az
  (gS L i k md) k.oid).kind (az (gS L i k md) k.oid).count (az (gS L i k md) k.oid).calls (((((((az (gS L i k md) k.oid).slots.put 2 (Key.mk 1 void.oid void.count void.call
  void.rights 1)).put 3 (Key.mk 1 void.oid void.count void.call void.rights m.code)).put 12 (ae L m.k0)).put 13 (ae L m.k1)).put 14 (ae L m.k2)).put 15 (jH L i md)) (Ge (ej.put 0
  (P7 (ca m.data))) (Int.toNat 1) (Int.toNat 64) m.data))=fh L i k md m)))))))))):=by
 have hq1:(!decide (0<ah L))=true->ar L=0:=fun h=>by
  have h1:¬0<ah L:=by simpa using h
  unfold ah at h1;omega
 have hq0:(!decide (0<ah L))=false->ar L≠0:=fun h=>by
  have h1:0<ah L:=by simpa using h
  unfold ah at h1;omega
 have hsz:aL IntKind.i64 (ca m.data):=by unfold au at hs;simp only[aL,b7,ca];omega
 have hs8:ca m.data<=32->aL IntKind.u8 (ca m.data):=fun h=>by simp only[aL,b7,ca]at *;omega
 simp only[rN,D2];simp only[r8,pR,r7,pY,decide_true,Bool.and_true,Bool.not_true,Bool.or_false,Bool.not_false,Bool.false_eq_true,Bool.true_eq_false,false_implies,implies_true,true_implies,true_and,and_true,and_self];have mk:gR L m=(decide (ca m.data<=32)&&bJ L m.k0&&bJ L m.k1&&bJ L m.k2):=rfl
 refine⟨fun h=>lM (SG (hq1 h)) (by omega),fun h=>⟨fun c1=>lM (CP (hq0 h) (.inl ?_)) (by omega),fun c1=>⟨fun c2=>lM (CP (hq0 h) (.inr (.inl ?_))) (by omega),fun c2=>⟨hsz,fun g1=>lM (CP (hq0 h) (.inr (.inr ?_))) (by omega),fun g1=>⟨fun g2=>lM (CP (hq0 h) (.inr (.inr ?_))) (by omega),fun g2=>⟨fun g3=>lM (CP (hq0 h) (.inr (.inr ?_))) (by omega),fun g3=>⟨fun g4=>lM (CP (hq0 h) (.inr (.inr ?_))) (by omega),fun g4=>?_⟩⟩⟩⟩⟩⟩⟩
 ·simp at c1;omega
 ·simpa using c2
 ·rw[mk,show decide (ca m.data<=32)=false by simpa using g1];rfl
 ·rw[mk,show bJ L m.k0=false by simpa using g2];simp
 ·rw[mk,show bJ L m.k1=false by simpa using g3];simp
 ·rw[mk,show bJ L m.k2=false by simpa using g4];simp
 have hl:=hq0 h;have b1:1<=md/\md<=3:=by simp at c1;omega
 have b2:bJ L k=true:=by simpa using c2
 have b3:gR L m=true:=by
  rw[mk,show decide (ca m.data<=32)=true by simpa using g1,show bJ L m.k0=true by simpa using g2,show bJ L m.k1=true by simpa using g3,show bJ L m.k2=true by simpa using g4];rfl
 have b:¬(¬(1<=md/\md<=3)\/bJ L k=false\/gR L m=false):=by
  rw[b2,b3];rintro(x|x|x)
  ·exact x b1
  ·exact Bool.noConfusion x
  ·exact Bool.noConfusion x
 refine⟨fun g5=>lM (Jg hl b (by simpa using g5)) (by omega),fun g5=>?_⟩
 have c:bP L i=1:=by simpa using g5
 refine⟨fun g6=>lM (CO hl b c ?_) (by omega),fun g6=>?_⟩
 ·simp only[Bool.not_eq_true',Bool.and_eq_false_iff,Bool.or_eq_false_iff,decide_eq_false_iff_not]at g6;rcases g6 with⟨x,y⟩|x
  ·exact .inr (.inl (by omega))
  ·exact .inl x
 have d1:(k.kind=6\/k.kind=7)/\aO L k=true:=by simp at g6;exact⟨by omega,g6.2⟩
 have hd:(!cR L k.oid)=true->231=cm L i k md m/\L=fh L i k md m:=fun x=>lM (CO hl b c (.inr (.inr (rA.2.2 (by simpa using x))))) (by omega)
 have dd:0<=bP L k.oid->¬(aO L k=false\/¬(k.kind=6\/k.kind=7)\/bP L k.oid<0):=fun h0=>by
  rw[d1.2];rintro(x|x|x)
  ·exact Bool.noConfusion x
  ·exact x d1.1
  ·omega
 have hd':(!cR L k.oid)=false->0<=bP L k.oid/\gn L k.oid=bP L k.oid:=fun x=>by
  have hb:cR L k.oid=true:=by simpa using x
  exact⟨rA.1.2 hb,Rn hb⟩
 obtain⟨n0,n1,_,n3⟩:=GZ b1;rw[n3];refine⟨⟨fun h6=>⟨hd,fun x=>⟨fun y=>?_,fun y=>⟨⟨⟩,?_,rfl⟩⟩⟩,fun h6=>⟨fun h7=>⟨hd,fun x=>⟨fun y=>?_,fun y=>⟨fun z=>?_,fun z=>⟨⟨⟩,?_,rfl⟩⟩⟩⟩,fun h7=>?_⟩⟩,fun _ hF=>?_⟩
 ·obtain⟨p0,pv⟩:=hd' x;have h6':=UX h6;rw[pv]at y;refine lM (Cz hl b c (dd p0) (.inl ⟨h6',?_⟩)) (by omega)
  simp only[Bool.not_eq_true',Bool.or_eq_false_iff,Bool.and_eq_false_iff,decide_eq_false_iff_not]at y;exact⟨y.1,fun hh=>y.2.elim (fun u=>u hh.1) (fun u=>u hh.2)⟩
 ·obtain⟨p0,pv⟩:=hd' x;have h6':=UX h6;rw[pv]at y;simp only[Bool.not_eq_false',Bool.or_eq_true,US,UT]at y;refine⟨hl,b1,b2,b3,c,d1.2,d1.1,p0,?_,fun hh=>by omega⟩
  rintro(⟨_,u,v⟩|⟨u,_⟩)
  ·exact y.elim u v
  ·omega
 ·obtain⟨p0,pv⟩:=hd' x;have h7':=UX h7;rw[pv]at y;exact lM (Cz hl b c (dd p0) (.inr ⟨h7',by simpa using y⟩)) (by omega)
 ·obtain⟨p0,pv⟩:=hd' x;have h7':=UX h7;rw[pv]at y;have y':bP L k.oid=2:=by simpa using y
  obtain⟨_,_,k2,_⟩:=qy (rA.1.1 p0);rw[k2]at z;refine lM (Di hl b c (dd p0) ?_ (.inl ⟨h7',by simpa using z⟩)) (by omega)
  rintro(⟨u,_⟩|⟨_,u⟩)<;>omega
 ·obtain⟨p0,pv⟩:=hd' x;have h7':=UX h7;rw[pv]at y;have y':bP L k.oid=2:=by simpa using y
  obtain⟨_,_,k2,_⟩:=qy (rA.1.1 p0);rw[k2]at z;have z':(ai L k.oid.toNat free).calls<4294967295:=by simpa using z
  refine⟨hl,b1,b2,b3,c,d1.2,d1.1,p0,?_,fun hh=>by omega⟩
  rintro(⟨u,_⟩|⟨_,u⟩)<;>omega
 ·have h6':=UW h6;have h7':=UW h7;omega
 obtain⟨_,_,_,_,_,_,_,p0,f9,f10⟩:=hF;obtain⟨i0,i1,i2,i3⟩:=qy (rA.1.1 (by omega:0<=bP L i))
 rw[i2];refine⟨fun g7=>lM (Di hl b c (dd p0) f9 (.inr ?_)) (by omega),fun g7=>?_⟩
 ·simp only[Bool.not_eq_true',Bool.or_eq_false_iff,Bool.not_eq_false',UT,decide_eq_false_iff_not]at g7;omega
 have hE:cm L i k md m=0:=by
  refine TY hl b c (dd p0) f9 ?_;simp only[Bool.not_eq_false',Bool.or_eq_true,Bool.not_eq_true',UT,decide_eq_false_iff_not]at g7;rintro(u|u)
  ·exact f10 u
  ·omega
 obtain⟨_,⟨⟨k0,k1⟩,_,_⟩,⟨hb,hb1⟩,⟨o1,l1⟩,⟨o2,l2⟩,⟨q1,q1c⟩,q2,hs32,hA⟩:=Bf hL hE;obtain⟨_,_,hend⟩:=HC hL hE;refine⟨⟨fun h1=>⟨⟨⟩,hE,?_⟩,fun h1=>⟨⟨⟩,hE,?_⟩⟩,fun _ _=>⟨⟨⟨⟩,hE,?_⟩,fun _ _=>⟨⟨fun h7=>⟨?_,⟨⟩,hE,?_⟩,fun h7=>⟨⟨⟩,hE,?_⟩⟩,fun _ _=>⟨hsz,hs8 hs32,⟨by omega,by omega,by omega⟩,hE.symm,?_⟩⟩⟩⟩
 ·unfold jH;rw[U0 (UX h1)];rfl
 ·unfold jH;rw[UZ (UW h1)]
 ·have e:=(Hc hL hb).2;rw[hb1,i2]at e;exact e
 ·have ho:=ec.1 (cz o1 k.oid.toNat (by omega))
  rw[fG k0 (by omega)]
  have:=ho.2.2.2.2.2.2.1;have:=ho.2.2.2.2.2.2.2.1;simp only[aL,b7];omega
 ·have h7':=UX h7;have hc:¬4294967295<=(ai L k.oid.toNat free).calls:=fun h=>f10 ⟨h7',h⟩
  have e:=(jV k0 (by omega) (GH (cz o1 k.oid.toNat (by omega)) q1 (by rw[q1c];omega))).1
  rw[fG k0 (by omega)]
  unfold gS;rw[U0 h7'];exact e
 ·unfold gS;rw[UZ (UW h7)]
 ·rw[KU hs32,hE]at *;exact hend
theorem Pk (L:List Sx.Obj) (i:Int) (k:Key) (md:Int) (m:bd) (hL:an L) (hs:au m.data):aj Tryz.prog 60 [.lp 0 0,.it .i64 i,.key k,.it .i64 md,qv m] [.store tS eS L] (yZ (.it .i64 (cm L i k md m)) (fh L i k md m)) (fun _ _=>False):=
 aJ (inl:=(fun f=>f==91||f==92||f==97||f==99||f==126||f==127||f==94||f==93||f==100||f==129||f==96||f==128||f==98)) (ann:=(kW [(94,2,Oo 4),(60,2000015,S8 [0,1,3,7,10,11,12,15,20] (fun(_:Unit)=> []) (fun _=> [(12,.blk 129 (.it .i64 (hJ md)))]) (fun _=> []) (fun _=>DX L i k md m)),(60,2000019,S8 [0,1,3,7,10,11,12,15,20] (fun(_:Unit)=> []) (fun _=> [(20,.blk tK (.key (jH L i md)))]) (fun _=> []) (fun _=>pd L i k md m)),(60,2000020,S8 [0,1,3,7,10,11,12,15,20] (fun(_:Unit)=> []) (fun _=> []) (fun _=> [(0,.store tS eS (gr L i md))]) (fun _=>pd L i k md m)),(60,2000022,S8 [0,1,3,7,10,11,12,15,20] (fun(_:Unit)=> []) (fun _=> []) (fun _=> [(0,.store tS eS (gS L i k md))]) (fun _=>pd L i k md m))])) (ab aW (ab ez (ab fJ (ab eV (ab cy (ab oX (ab bj (ab sZ aq)))))))) (aB bY ay) (cN jA) (QV L i k md m hL hs) (by kernel_rfl)
theorem Qx:p5 Tryz.prog 60 R2:=
 yG (m:=fun x=>Tu.cn x 0) (nU Qn (fun _=>rfl)) (fun _=>rfl) (fun _ _=>rfl) (fun x hs=>aJ (inl:=(fun f=>f==91||f==92||f==97||f==99||f==126||f==127||f==94||f==93||f==100||f==129||f==96||f==128||f==98)) (ann:=aQ) (ab nV (ab ez (ab fJ (ab eV (ab cy (ab oX (ab bj (ab sZ aq)))))))) (aB bY ay) (cN jA) (NW x.1 x.2.1 x.2.2.1 x.2.2.2.1 hs) (by kernel_rfl)) (fun x hs=>aJ (inl:=(fun f=>f==91||f==92||f==97||f==99||f==126||f==127||f==94||f==93||f==100||f==129||f==96||f==128||f==98)) (ann:=aQ) (ab nV (ab ez (ab fJ (ab eV (ab cy (ab oX (ab bj (ab sZ aq)))))))) (aB bY ay) (cN jA) (LZ x.1 x.2.1 x.2.2.1 x.2.2.2.1 hs) (by kernel_rfl)) fun L x hq=>Pk L x.1 x.2.1 x.2.2.1 x.2.2.2.1 hq.1 hq.2
end Go.Proofs.YtlblcfaclmpekaaGreat
