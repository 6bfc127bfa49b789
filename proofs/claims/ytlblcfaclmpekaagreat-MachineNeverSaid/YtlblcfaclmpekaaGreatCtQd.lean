import Derived.Test.YtlblcfaclmpekaaGreatCtQc
set_option linter.unusedSimpArgs false
set_option linter.unusedVariables false
namespace Go.Proofs.YtlblcfaclmpekaaGreat
open Go.Sx
set_option maxRecDepth 100000
theorem GH:
 ∀(nid:Nat),some (V.mp nid)=some (V.mp nid)/\some [aA.mp IntKind.i64 [6,7] [V.fn 126 [],V.fn 127 []]]=some [aA.mp IntKind.i64
  [6,7] [V.fn 126 [],V.fn 127 []]]:=by
 exact fun nid=>⟨rfl,rfl⟩
theorem tO:cV Tryz.prog 95 (zq W5 W7):=sm (π:= [0]) (by decide) (fun _=>rfl) (bK (inl:=bS) (ann:=aO) an az GH (by kernel_rfl))
theorem qD:cV Tryz.prog 36 DL:=NZ aY
theorem NC (i:Int) (m:bh) (hs:aw m.data):
 true=true/\1=jh [] i m:=by
 exact⟨rfl,rfl⟩
theorem Ou (i:Int) (m:bh) (hs:aw m.data):
 true=true/\1=jh [] i m:=by
 exact⟨rfl,rfl⟩
theorem S9 (L:List Sx.Obj) (i:Int) (m:bh) (hL:aq L) (hs:aw m.data):
 true=true/\((!decide (0<ah L))=true->1=jh L i m/\L=jF L i m)/\((!decide (0<ah L))=false->true=true/\aL IntKind.i64 (cE m.data)/\true=true/\((!decide (cE
  m.data<=32))=true->2=jh L i m/\L=jF L i m)/\((!decide (cE m.data<=32))=false->true=true/\true=true/\((!(decide (bg m.k0=0)&&(!aR m.k0||decide (bG m.k0<
  ah L))))=true->2=jh L i m/\L=jF L i m)/\((!(decide (bg m.k0=0)&&(!aR m.k0||decide (bG m.k0<ah L))))=false->true=true/\true=true/\((!(decide (bg
  m.k1=0)&&(!aR m.k1||decide (bG m.k1<ah L))))=true->2=jh L i m/\L=jF L i m)/\((!(decide (bg m.k1=0)&&(!aR m.k1||decide (bG m.k1<ah L))))=false
  ->true=true/\true=true/\((!(decide (bg m.k2=0)&&(!aR m.k2||decide (bG m.k2<ah L))))=true->2=jh L i m/\L=jF L i m)/\((!(decide (bg m.k2=0)&&(!aR
  m.k2||decide (bG m.k2<ah L))))=false->true=true/\((!(di L i&&decide (gF L i=1)))=true->230=jh L i m/\L=jF L i m)/\((!(di L i&&decide (gF L i=1)))=
  false->true=true/\true=true/\true=true/\true=true/\true=true/\aL IntKind.i64 (cE m.data)/\aL IntKind.u8 (cE m.data)/\Bf 1 64 64/\true=true/\0=jh L i m/\bN L i
  (Obj.mk (au L i).kind (au L i).count (au L i).calls (((((((au L i).slots.put 2 (Key.mk 1 void.oid void.count void.call void.rights 1)).put 3 (Key.mk 1 void.oid void.count void.call
  void.rights m.code)).put 12 (ae L m.k0)).put 13 (ae L m.k1)).put 14 (ae L m.k2)).put 15 void) (Hy (dV.put 0 (Sh (cE m.data))) (Int.toNat 1) (Int.toNat 64) m.data))=jF L i
  m)))))):=by
 have no:∀e,jh L i m=e->e≠0->e=jh L i m/\L=jF L i m:=fun e h he=>⟨h.symm,by unfold jF;rw[h,Xu he]⟩
 have hq1:(!decide (0<ah L))=true->ak L=0:=fun h=>by
  have h1:¬0<ah L:=by simpa using h
  unfold ah at h1;omega
 have hq0:(!decide (0<ah L))=false->ak L≠0:=fun h=>by
  have h1:0<ah L:=by simpa using h
  unfold ah at h1;omega
 have hsz:aL IntKind.i64 (cE m.data):=by unfold aw at hs;simp only[aL,cg,cE];omega
 have hs8:cE m.data<=32->aL IntKind.u8 (cE m.data):=fun h=>by simp only[aL,cg,cE]at *;omega
 simp only[rQ,Eu];simp only[sV,qi,pR,nD,decide_true,Bool.and_true,Bool.not_true,Bool.or_false,Bool.not_false,Bool.false_eq_true,Bool.true_eq_false,false_implies,implies_true,true_implies,true_and,and_true,and_self];have mk:ie L m=(decide (cE m.data<=32)&&bQ L m.k0&&bQ L m.k1&&bQ L m.k2):=rfl
 have bad:ak L≠0->ie L m=false->2=jh L i m/\L=jF L i m:=fun h hm=>no _ (by unfold jh;rw[Xu h,Xv hm]) (by omega)
 refine⟨fun h=>no _ (by unfold jh;rw[Xv (hq1 h)]) (by omega),fun h=>⟨hsz,fun g1=>bad (hq0 h) ?_,fun g1=>⟨fun g2=>bad (hq0 h) ?_,fun g2=>⟨fun g3=>bad (hq0 h) ?_,fun g3=>⟨fun g4=>bad (hq0 h) ?_,fun g4=>⟨fun g5=>no _ ?_ (by omega),fun g5=>?_⟩⟩⟩⟩⟩⟩
 ·rw[mk,show decide (cE m.data<=32)=false by simpa using g1];rfl
 ·rw[mk,show bQ L m.k0=false by simpa using g2];simp
 ·rw[mk,show bQ L m.k1=false by simpa using g3];simp
 ·rw[mk,show bQ L m.k2=false by simpa using g4];simp
 all_goals
  have hm:ie L m=true:=by
   rw[mk,show decide (cE m.data<=32)=true by simpa using g1,show bQ L m.k0=true by simpa using g2,show bQ L m.k1=true by simpa using g3,show bQ L m.k2=true by simpa using g4];rfl
 ·unfold jh;rw[Xu (hq0 h),Xu (by simp[hm]),Xv (by simpa using g5)]
 have g5':bV L i=1:=by simpa using g5
 have hE:jh L i m=0:=by unfold jh;rw[Xu (hq0 h),Xu (by simp[hm]),Xu (by omega)]
 obtain⟨a,b,c,d⟩:=rF (si.1.1 (by omega:0<=bV L i))
 refine⟨hsz,hs8 (DR hm),⟨by omega,by omega,by omega⟩,hE.symm,?_⟩
 obtain⟨f0,f1,f2⟩:=Al (by have:=gf hL;omega:0<L.length) m
 have ho:=Dw (m:=ld L m) (a:=void) (cm hL i.toNat (by omega)) d f0 f1 f2 (wh (by omega))
 have e:Obj.mk (au L i).kind (au L i).count (au L i).calls (((((((au L i).slots.put 2 (Key.mk 1 void.oid void.count void.call void.rights 1)).put 3 (Key.mk 1 void.oid void.count void.call void.rights m.code)).put 12 (ae L m.k0)).put 13 (ae L m.k1)).put 14 (ae L m.k2)).put 15 void) (Hy (dV.put 0 (Sh (cE m.data))) (Int.toNat 1) (Int.toNat 64) m.data)=oP (au L i) (ld L m) void:=by
  rw[K4 (DR hm)];rfl
 rw[e,c,(ki a b ho).1];unfold jF Bs;rw[Xv hE]
theorem SP (L:List Sx.Obj) (i:Int) (m:bh) (hL:aq L) (hs:aw m.data):aj Tryz.prog 63 [.lp 0 0,.it .i64 i,rk m] [.store tS eS L] (AA (.it .i64 (jh L i m)) (jF L i m)) (fun _ _=>False):=
 aK (inl:=(fun f=>f==91||f==94||f==93||f==100||f==129||f==96||f==128||f==98)) (ann:=(kg [(94,2,Q0 4)])) (ab aY (ab eG (ab fQ (ab fj (ab cF (ab pD an)))))) (aC cw az) (cW j5) (S9 L i m hL hs) (by kernel_rfl)
theorem R3:oU Tryz.prog 63 TX:=
 zO (m:=fun x=>VS.cn x 0) (nM Ss (fun _=>rfl)) (fun _=>rfl) (fun _ _=>rfl) (fun x hs=>aK (inl:=(fun f=>f==91||f==94||f==93||f==100||f==129||f==96||f==128||f==98)) (ann:=aO) (ab qD (ab eG (ab fQ (ab fj (ab cF (ab pD an)))))) (aC cw az) (cW j5) (NC x.1 x.2.1 hs) (by kernel_rfl)) (fun x hs=>aK (inl:=(fun f=>f==91||f==94||f==93||f==100||f==129||f==96||f==128||f==98)) (ann:=aO) (ab qD (ab eG (ab fQ (ab fj (ab cF (ab pD an)))))) (aC cw az) (cW j5) (Ou x.1 x.2.1 hs) (by kernel_rfl)) fun L x hq=>SP L x.1 x.2.1 hq.1 hq.2
theorem On (i:Int) (k:Key) (md:Int) (m:bh) (hs:aw m.data):
 true=true/\1=b8 [] i k md m:=by
 exact⟨rfl,rfl⟩
theorem Oc (i:Int) (k:Key) (md:Int) (m:bh) (hs:aw m.data):
 true=true/\1=b8 [] i k md m:=by
 exact⟨rfl,rfl⟩
theorem SS (L:List Sx.Obj) (i:Int) (k:Key) (md:Int) (m:bh) (hL:aq L) (hs:aw m.data):
 true=true/\((!decide (0<ah L))=true->1=b8 L i k md m/\L=eN L i k md m)/\((!decide (0<ah L))=false->true=true/\true=true/\((!(decide (md=1)||(decide (md=2)
  ||decide (md=3))))=true->2=b8 L i k md m/\L=eN L i k md m)/\((!(decide (md=1)||(decide (md=2)||decide (md=3))))=false->true=true/\true=true/\((!(decide (bg k=
  0)&&(!aR k||decide (bG k<ah L))))=true->2=b8 L i k md m/\L=eN L i k md m)/\((!(decide (bg k=0)&&(!aR k||decide (bG k<ah L))))=false->true=
  true/\aL IntKind.i64 (cE m.data)/\true=true/\((!decide (cE m.data<=32))=true->2=b8 L i k md m/\L=eN L i k md m)/\((!decide (cE m.data<=32))=false->true=true/\true=
  true/\((!(decide (bg m.k0=0)&&(!aR m.k0||decide (bG m.k0<ah L))))=true->2=b8 L i k md m/\L=eN L i k md m)/\((!(decide (bg m.k0=0)&&(!aR m.k0||decide
  (bG m.k0<ah L))))=false->true=true/\true=true/\((!(decide (bg m.k1=0)&&(!aR m.k1||decide (bG m.k1<ah L))))=true->2=b8 L i k md m/\L=eN L i k md m)
  /\((!(decide (bg m.k1=0)&&(!aR m.k1||decide (bG m.k1<ah L))))=false->true=true/\true=true/\((!(decide (bg m.k2=0)&&(!aR m.k2||decide (bG m.k2<ah
  L))))=true->2=b8 L i k md m/\L=eN L i k md m)/\((!(decide (bg m.k2=0)&&(!aR m.k2||decide (bG m.k2<ah L))))=false->true=true/\((!(di L i&&decide (gF L
  i=1)))=true->230=b8 L i k md m/\L=eN L i k md m)/\((!(di L i&&decide (gF L i=1)))=false->true=true/\((!((decide (k.kind=6)||decide (k.kind=7))&&aI L k))=
  true->231=b8 L i k md m/\L=eN L i k md m)/\((!((decide (k.kind=6)||decide (k.kind=7))&&aI L k))=false->((decide (k.kind=6)=true->true=true/\true=true/\((!di L
  k.oid)=true->231=b8 L i k md m/\L=eN L i k md m)/\((!di L k.oid)=false->true=true/\((!(decide (gF L k.oid=0)||decide (md=3)&&decide (k.oid=i)))=true->232=b8
  L i k md m/\L=eN L i k md m)/\((!(decide (gF L k.oid=0)||decide (md=3)&&decide (k.oid=i)))=false->∃g:Unit,FC L i k md m/\i=i/\md=md/\L=L/\k=k/\m.code=m.code
  /\m.data=m.data/\ae L m.k0=ae L m.k0/\ae L m.k1=ae L m.k1/\ae L m.k2=ae L m.k2/\i=i/\k=k/\md=md/\w7 (decide (md=1)) 2 (w7 (decide (md=2)) 1 (w7
  (decide (md=3)) 0 0))=iK md/\au L i=au L i)))/\(decide (k.kind=6)=false->(decide (k.kind=7)=true->true=true/\true=true/\((!di L k.oid)=true->231=b8 L i k md
  m/\L=eN L i k md m)/\((!di L k.oid)=false->true=true/\((!decide (gF L k.oid=2))=true->232=b8 L i k md m/\L=eN L i k md m)/\((!decide (gF L k.oid=2))=false->
  true=true/\((!decide ((au L k.oid).calls<4294967295))=true->233=b8 L i k md m/\L=eN L i k md m)/\((!decide ((au L k.oid).calls<4294967295))=false->∃g:Unit,FC L i k
  md m/\i=i/\md=md/\L=L/\k=k/\m.code=m.code/\m.data=m.data/\ae L m.k0=ae L m.k0/\ae L m.k1=ae L m.k1/\ae L m.k2=ae L m.k2/\i=i/\k=k/\md=md/\
  w7 (decide (md=1)) 2 (w7 (decide (md=2)) 1 (w7 (decide (md=3)) 0 0))=iK md/\au L i=au L i))))/\(decide (k.kind=7)=false->False)))/\∀(g:Unit),FC L i k md m->true
  =true/\((!(!decide (md=1)||decide ((au L i).calls<4294967295)))=true->233=b8 L i k md m/\L=eN L i k md m)/\((!(!decide (md=1)||decide ((au L i).calls<4294967295)))=
  false->((decide (md=1)=true->∃g:Unit,pc L i k md m/\i=i/\md=md/\L=L/\k=k/\m.code=m.code/\m.data=m.data/\ae L m.k0=ae L m.k0/\ae L m.k1=ae L m.k1/\
  ae L m.k2=ae L m.k2/\i=i/\k=k/\md=md/\iK md=iK md/\au L i=au L i/\Key.mk 7 i (au L i).count (au L i).calls void.rights void.value=jK L i md)/\(decide
  (md=1)=false->∃g:Unit,pc L i k md m/\i=i/\md=md/\L=L/\k=k/\m.code=m.code/\m.data=m.data/\ae L m.k0=ae L m.k0/\ae L m.k1=ae L m.k1/\ae L m.k2=
  ae L m.k2/\i=i/\k=k/\md=md/\iK md=iK md/\au L i=au L i/\void=jK L i md))/\∀(g:Unit),pc L i k md m->(true=true/\true=true/\true=true/\true=true/\
  ∃g:Unit,pc L i k md m/\i=i/\md=md/\bN L i (Obj.mk (au L i).kind (au L i).count (au L i).calls ((au L i).slots.put 2 (Key.mk 1 void.oid void.count void.call void.rights
  (iK md))) (au L i).bytes)=gw L i md/\k=k/\m.code=m.code/\m.data=m.data/\ae L m.k0=ae L m.k0/\ae L m.k1=ae L m.k1/\ae L m.k2=ae L m.k2/\i=i/\k=
  k/\md=md/\iK md=iK md/\au L i=au L i/\jK L i md=jK L i md)/\∀(g:Unit),pc L i k md m->((decide (k.kind=7)=true->true=true/\true=true/\aL IntKind.i64
  ((au (gw L i md) k.oid).calls+1)/\true=true/\∃g:Unit,pc L i k md m/\i=i/\md=md/\bN (gw L i md) k.oid (Obj.mk (au (gw L i md) k.oid).kind (au (gw L i md)
  k.oid).count ((au (gw L i md) k.oid).calls+1) (au (gw L i md) k.oid).slots (au (gw L i md) k.oid).bytes)=ga L i k md/\k=k/\m.code=m.code/\m.data=m.data/\ae L m.k0
  =ae L m.k0/\ae L m.k1=ae L m.k1/\ae L m.k2=ae L m.k2/\i=i/\k=k/\md=md/\iK md=iK md/\au L i=au L i/\jK L i md=jK L i md)/\(decide (k.kind
  =7)=false->∃g:Unit,pc L i k md m/\i=i/\md=md/\gw L i md=ga L i k md/\k=k/\m.code=m.code/\m.data=m.data/\ae L m.k0=ae L m.k0/\ae L m.k1=ae L m.k1
  /\ae L m.k2=ae L m.k2/\i=i/\k=k/\md=md/\iK md=iK md/\au L i=au L i/\jK L i md=jK L i md))/\∀(g:Unit),pc L i k md m->true=true/\true=true/\
  true=true/\true=true/\true=true/\aL IntKind.i64 (cE m.data)/\aL IntKind.u8 (cE m.data)/\Bf 1 64 64/\true=true/\0=b8 L i k md m/\bN (ga L i k md) k.oid (Obj.mk (au
  (ga L i k md) k.oid).kind (au (ga L i k md) k.oid).count (au (ga L i k md) k.oid).calls (((((((au (ga L i k md) k.oid).slots.put 2 (Key.mk 1 void.oid void.count void.call
  void.rights 1)).put 3 (Key.mk 1 void.oid void.count void.call void.rights m.code)).put 12 (ae L m.k0)).put 13 (ae L m.k1)).put 14 (ae L m.k2)).put 15 (jK L i md)) (Hy (dV.put 0
  (Sh (cE m.data))) (Int.toNat 1) (Int.toNat 64) m.data))=eN L i k md m)))))))))):=by
 have hq1:(!decide (0<ah L))=true->ak L=0:=fun h=>by
  have h1:¬0<ah L:=by simpa using h
  unfold ah at h1;omega
 have hq0:(!decide (0<ah L))=false->ak L≠0:=fun h=>by
  have h1:0<ah L:=by simpa using h
  unfold ah at h1;omega
 have hsz:aL IntKind.i64 (cE m.data):=by unfold aw at hs;simp only[aL,cg,cE];omega
 have hs8:cE m.data<=32->aL IntKind.u8 (cE m.data):=fun h=>by simp only[aL,cg,cE]at *;omega
 simp only[rQ,Eu];simp only[sV,qi,pR,nD,decide_true,Bool.and_true,Bool.not_true,Bool.or_false,Bool.not_false,Bool.false_eq_true,Bool.true_eq_false,false_implies,implies_true,true_implies,true_and,and_true,and_self];have mk:ie L m=(decide (cE m.data<=32)&&bQ L m.k0&&bQ L m.k1&&bQ L m.k2):=rfl
 refine⟨fun h=>lh (UC (hq1 h)) (by omega),fun h=>⟨fun c1=>lh (DW (hq0 h) (.inl ?_)) (by omega),fun c1=>⟨fun c2=>lh (DW (hq0 h) (.inr (.inl ?_))) (by omega),fun c2=>⟨hsz,fun g1=>lh (DW (hq0 h) (.inr (.inr ?_))) (by omega),fun g1=>⟨fun g2=>lh (DW (hq0 h) (.inr (.inr ?_))) (by omega),fun g2=>⟨fun g3=>lh (DW (hq0 h) (.inr (.inr ?_))) (by omega),fun g3=>⟨fun g4=>lh (DW (hq0 h) (.inr (.inr ?_))) (by omega),fun g4=>?_⟩⟩⟩⟩⟩⟩⟩
 ·simp at c1;omega
 ·simpa using c2
 ·rw[mk,show decide (cE m.data<=32)=false by simpa using g1];rfl
 ·rw[mk,show bQ L m.k0=false by simpa using g2];simp
 ·rw[mk,show bQ L m.k1=false by simpa using g3];simp
 ·rw[mk,show bQ L m.k2=false by simpa using g4];simp
 have hl:=hq0 h;have b1:1<=md/\md<=3:=by simp at c1;omega
 have b2:bQ L k=true:=by simpa using c2
 have b3:ie L m=true:=by
  rw[mk,show decide (cE m.data<=32)=true by simpa using g1,show bQ L m.k0=true by simpa using g2,show bQ L m.k1=true by simpa using g3,show bQ L m.k2=true by simpa using g4];rfl
 have b:¬(¬(1<=md/\md<=3)\/bQ L k=false\/ie L m=false):=by
  rw[b2,b3];rintro(x|x|x)
  ·exact x b1
  ·exact Bool.noConfusion x
  ·exact Bool.noConfusion x
 refine⟨fun g5=>lh (Ks hl b (by simpa using g5)) (by omega),fun g5=>?_⟩
 have c:bV L i=1:=by simpa using g5
 refine⟨fun g6=>lh (D0 hl b c ?_) (by omega),fun g6=>?_⟩
 ·simp only[Bool.not_eq_true',Bool.and_eq_false_iff,Bool.or_eq_false_iff,decide_eq_false_iff_not]at g6;rcases g6 with⟨x,y⟩|x
  ·exact .inr (.inl (by omega))
  ·exact .inl x
 have d1:(k.kind=6\/k.kind=7)/\aI L k=true:=by simp at g6;exact⟨by omega,g6.2⟩
 have hd:(!di L k.oid)=true->231=b8 L i k md m/\L=eN L i k md m:=fun x=>lh (D0 hl b c (.inr (.inr (si.2.2 (by simpa using x))))) (by omega)
 have dd:0<=bV L k.oid->¬(aI L k=false\/¬(k.kind=6\/k.kind=7)\/bV L k.oid<0):=fun h0=>by
  rw[d1.2];rintro(x|x|x)
  ·exact Bool.noConfusion x
  ·exact x d1.1
  ·omega
 have hd':(!di L k.oid)=false->0<=bV L k.oid/\gF L k.oid=bV L k.oid:=fun x=>by
  have hb:di L k.oid=true:=by simpa using x
  exact⟨si.1.2 hb,TN hb⟩
 obtain⟨n0,n1,_,n3⟩:=HY b1;rw[n3];refine⟨⟨fun h6=>⟨hd,fun x=>⟨fun y=>?_,fun y=>⟨⟨⟩,?_,rfl⟩⟩⟩,fun h6=>⟨fun h7=>⟨hd,fun x=>⟨fun y=>?_,fun y=>⟨fun z=>?_,fun z=>⟨⟨⟩,?_,rfl⟩⟩⟩⟩,fun h7=>?_⟩⟩,fun _ hF=>?_⟩
 ·obtain⟨p0,pv⟩:=hd' x;have h6':=Xs h6;rw[pv]at y;refine lh (Dh hl b c (dd p0) (.inl ⟨h6',?_⟩)) (by omega)
  simp only[Bool.not_eq_true',Bool.or_eq_false_iff,Bool.and_eq_false_iff,decide_eq_false_iff_not]at y;exact⟨y.1,fun hh=>y.2.elim (fun u=>u hh.1) (fun u=>u hh.2)⟩
 ·obtain⟨p0,pv⟩:=hd' x;have h6':=Xs h6;rw[pv]at y;simp only[Bool.not_eq_false',Bool.or_eq_true,Xo,Xp]at y;refine⟨hl,b1,b2,b3,c,d1.2,d1.1,p0,?_,fun hh=>by omega⟩
  rintro(⟨_,u,v⟩|⟨u,_⟩)
  ·exact y.elim u v
  ·omega
 ·obtain⟨p0,pv⟩:=hd' x;have h7':=Xs h7;rw[pv]at y;exact lh (Dh hl b c (dd p0) (.inr ⟨h7',by simpa using y⟩)) (by omega)
 ·obtain⟨p0,pv⟩:=hd' x;have h7':=Xs h7;rw[pv]at y;have y':bV L k.oid=2:=by simpa using y
  obtain⟨_,_,k2,_⟩:=rF (si.1.1 p0);rw[k2]at z;refine lh (DK hl b c (dd p0) ?_ (.inl ⟨h7',by simpa using z⟩)) (by omega)
  rintro(⟨u,_⟩|⟨_,u⟩)<;>omega
 ·obtain⟨p0,pv⟩:=hd' x;have h7':=Xs h7;rw[pv]at y;have y':bV L k.oid=2:=by simpa using y
  obtain⟨_,_,k2,_⟩:=rF (si.1.1 p0);rw[k2]at z;have z':(ai L k.oid.toNat free).calls<4294967295:=by simpa using z
  refine⟨hl,b1,b2,b3,c,d1.2,d1.1,p0,?_,fun hh=>by omega⟩
  rintro(⟨u,_⟩|⟨_,u⟩)<;>omega
 ·have h6':=Xr h6;have h7':=Xr h7;omega
 obtain⟨_,_,_,_,_,_,_,p0,f9,f10⟩:=hF;obtain⟨i0,i1,i2,i3⟩:=rF (si.1.1 (by omega:0<=bV L i))
 rw[i2];refine⟨fun g7=>lh (DK hl b c (dd p0) f9 (.inr ?_)) (by omega),fun g7=>?_⟩
 ·simp only[Bool.not_eq_true',Bool.or_eq_false_iff,Bool.not_eq_false',Xp,decide_eq_false_iff_not]at g7;omega
 have hE:b8 L i k md m=0:=by
  refine Wi hl b c (dd p0) f9 ?_;simp only[Bool.not_eq_false',Bool.or_eq_true,Bool.not_eq_true',Xp,decide_eq_false_iff_not]at g7;rintro(u|u)
  ·exact f10 u
  ·omega
 obtain⟨_,⟨⟨k0,k1⟩,_,_⟩,⟨hb,hb1⟩,⟨o1,l1⟩,⟨o2,l2⟩,⟨q1,q1c⟩,q2,hs32,hA⟩:=sB hL hE;obtain⟨_,_,hend⟩:=Mi hL hE;refine⟨⟨fun h1=>⟨⟨⟩,hE,?_⟩,fun h1=>⟨⟨⟩,hE,?_⟩⟩,fun _ _=>⟨⟨⟨⟩,hE,?_⟩,fun _ _=>⟨⟨fun h7=>⟨?_,⟨⟩,hE,?_⟩,fun h7=>⟨⟨⟩,hE,?_⟩⟩,fun _ _=>⟨hsz,hs8 hs32,⟨by omega,by omega,by omega⟩,hE.symm,?_⟩⟩⟩⟩
 ·unfold jK;rw[Xv (Xs h1)];rfl
 ·unfold jK;rw[Xu (Xr h1)]
 ·have e:=(LM hL hb).2;rw[hb1,i2]at e;exact e
 ·have ho:=cO.1 (cm o1 k.oid.toNat (by omega))
  rw[fu k0 (by omega)]
  have:=ho.2.2.2.2.2.2.1;have:=ho.2.2.2.2.2.2.2.1;simp only[aL,cg];omega
 ·have h7':=Xs h7;have hc:¬4294967295<=(ai L k.oid.toNat free).calls:=fun h=>f10 ⟨h7',h⟩
  have e:=(ki k0 (by omega) (I3 (cm o1 k.oid.toNat (by omega)) q1 (by rw[q1c];omega))).1
  rw[fu k0 (by omega)]
  unfold ga;rw[Xv h7'];exact e
 ·unfold ga;rw[Xu (Xr h7)]
 ·rw[K4 hs32,hE]at *;exact hend
theorem Sr (L:List Sx.Obj) (i:Int) (k:Key) (md:Int) (m:bh) (hL:aq L) (hs:aw m.data):aj Tryz.prog 60 [.lp 0 0,.it .i64 i,.key k,.it .i64 md,rk m] [.store tS eS L] (AA (.it .i64 (b8 L i k md m)) (eN L i k md m)) (fun _ _=>False):=
 aK (inl:=(fun f=>f==91||f==92||f==97||f==99||f==126||f==127||f==94||f==93||f==100||f==129||f==96||f==128||f==98)) (ann:=(kg [(94,2,Q0 4),(60,2000015,VF [0,1,3,7,10,11,12,15,20] (fun(_:Unit)=> []) (fun _=> [(12,.blk 129 (.it .i64 (iK md)))]) (fun _=> []) (fun _=>FC L i k md m)),(60,2000019,VF [0,1,3,7,10,11,12,15,20] (fun(_:Unit)=> []) (fun _=> [(20,.blk tK (.key (jK L i md)))]) (fun _=> []) (fun _=>pc L i k md m)),(60,2000020,VF [0,1,3,7,10,11,12,15,20] (fun(_:Unit)=> []) (fun _=> []) (fun _=> [(0,.store tS eS (gw L i md))]) (fun _=>pc L i k md m)),(60,2000022,VF [0,1,3,7,10,11,12,15,20] (fun(_:Unit)=> []) (fun _=> []) (fun _=> [(0,.store tS eS (ga L i k md))]) (fun _=>pc L i k md m))])) (ab aY (ab eG (ab fQ (ab fj (ab cF (ab pD (ab bk (ab tO an)))))))) (aC cw az) (cW j5) (SS L i k md m hL hs) (by kernel_rfl)
theorem RW:oU Tryz.prog 60 TF:=
 zO (m:=fun x=>VM.cn x 0) (nM QK (fun _=>rfl)) (fun _=>rfl) (fun _ _=>rfl) (fun x hs=>aK (inl:=(fun f=>f==91||f==92||f==97||f==99||f==126||f==127||f==94||f==93||f==100||f==129||f==96||f==128||f==98)) (ann:=aO) (ab qD (ab eG (ab fQ (ab fj (ab cF (ab pD (ab bk (ab tO an)))))))) (aC cw az) (cW j5) (On x.1 x.2.1 x.2.2.1 x.2.2.2.1 hs) (by kernel_rfl)) (fun x hs=>aK (inl:=(fun f=>f==91||f==92||f==97||f==99||f==126||f==127||f==94||f==93||f==100||f==129||f==96||f==128||f==98)) (ann:=aO) (ab qD (ab eG (ab fQ (ab fj (ab cF (ab pD (ab bk (ab tO an)))))))) (aC cw az) (cW j5) (Oc x.1 x.2.1 x.2.2.1 x.2.2.2.1 hs) (by kernel_rfl)) fun L x hq=>Sr L x.1 x.2.1 x.2.2.1 x.2.2.2.1 hq.1 hq.2
end Go.Proofs.YtlblcfaclmpekaaGreat
