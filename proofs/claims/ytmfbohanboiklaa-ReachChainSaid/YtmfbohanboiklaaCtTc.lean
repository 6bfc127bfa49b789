import Derived.Test.YtmfbohanboiklaaCtTb
import Derived.Test.YtmfbohanboiklaaSpHc
set_option linter.unusedSimpArgs false
set_option linter.unusedVariables false
namespace Go.Proofs.Ytmfbohanboiklaa
open Go.Sx
set_option maxRecDepth 100000
theorem Hk (L:List Sx.Obj) (k:Key) (i:Int) (hk:bC .i64 k.rights) (hq:u6 L k i):
 (0<=k.oid/\k.oid< ↑(aa L))/\(0<=i/\i< ↑16)/\k.oid.toNat<aa L/\(sX 2/\aP IntKind.i64 (k.rights.tdiv 2))/\(sX 2/\aP IntKind.i64 ((k.rights.tdiv 2).tmod 2))/\(decide
  ((k.rights.tdiv 2).tmod 2=1)=true->cA (bc L ((au L k.oid.toNat free).slots.at i.toNat))=cZ L k i)/\(decide ((k.rights.tdiv 2).tmod 2=1)=false->bc L ((au L k.oid.toNat
  free).slots.at i.toNat)=cZ L k i):=by
 obtain⟨h0,h1,h2,h3⟩:=hq;have e2:sX 2:=by unfold sX;omega
 refine⟨⟨h2,h3⟩,⟨h0,by omega⟩,by omega,⟨e2,uT hk (.inr (.inl rfl))⟩,⟨e2,rv _⟩,fun h=>?_,fun h=>?_⟩
 ·unfold cZ u4 bq;rw[Ng h]
 ·unfold cZ u4 bq;rw[Nf (by rw[h];simp)]
theorem GF:bW Try.prog 30 Ip:=
 o7 (bj vi (bj Aj (bj mJ dv))) (fun _=>rfl) fun a hq hok=>by
  obtain⟨L,k,i,_⟩:=a;exact aL (inl:=bw) (ann:=bY) (an xV (an wJ az)) (Hk L k i hok.2.1.2.2.2.2.1 hq) (by kernel_rfl)
theorem Gr (L:List Sx.Obj) (oid:Int) (hL:fC L):
 ((!decide (aC L oid=0))=true->dp L oid=false/\Value.slice none 0 0=Value.slice none 0 0/\aC L oid=aC L oid)/\((!decide (aC L oid=0))=false->fC L/\dp L oid=
   true/\∀(nid:Nat),some (V.tp [V.sa nid,V.ci IntKind.i64 0])=some (V.tp [V.sa nid,V.ci IntKind.i64 0])/\some [ah.arr (some 43) 5 (TL.qs 5 (dt L oid))]=some [ah.arr (some 43) 5 (TL.qs 5
   (dt L oid))]):=by
 unfold dp;refine⟨fun h=>⟨by simpa using h,rfl,rfl⟩,fun h=>⟨hL,by simpa using h,fun nid=>⟨rfl,rfl⟩⟩⟩
theorem FH (oid:Int):
 ((!decide (aC [] oid=0))=true->dp [] oid=false/\Value.slice none 0 0=Value.slice none 0 0/\aC [] oid=aC [] oid)/\((!decide (aC [] oid=0))=false->False/\dp [] oid
   =true/\∀(nid:Nat),some (V.tp [V.sa nid,V.ci IntKind.i64 0])=some (V.tp [V.sa nid,V.ci IntKind.i64 0])/\some [ah.arr (some 43) 5 (TL.qs 5 (dt [] oid))]=some [ah.arr (some 43) 5 (TL.qs
   5 (dt [] oid))]):=by
 unfold dp;refine⟨fun h=>⟨by simpa using h,rfl,rfl⟩,fun h=>?_⟩
 rw[jI]at h;simp at h
theorem yM:sY Try.prog 13 HS:=by
 unfold HS yT
 refine EP (bj (E0 tS eS) (bj mJ dv)) (fun _=>rfl) (fun _=>by simp) fun a hq _=>by
  obtain⟨o,oid,_⟩:=a;cases o with
  |none=>exact cK (inl:=bw) (ann:=bY) (an rW (an E9 az)) cM (FH oid) (by kernel_rfl)
  |some L=>exact cK (inl:=bw) (ann:=bY) (an rW (an E9 az)) cM (Gr L oid hq) (by kernel_rfl)
theorem Cu (k:Sx.Key):
 Key.mk k.kind k.oid k.count k.call k.rights void.value=Key.mk k.kind k.oid k.count k.call k.rights 0:=by
 rfl
theorem xi:bW Try.prog 31 Fv:=o7 (bj qp dv) (fun _=>rfl) fun a _ _=>aL (inl:=bw) (ann:=bY) az (Cu (vj a.1)) (by kernel_rfl)
theorem FJ (x y:Sx.Key):
 (decide (x.kind<y.kind)=true-> -1=eH x y)/\(decide (x.kind<y.kind)=false->(decide (y.kind<x.kind)=true->1=eH x y)/\(decide (y.kind<x.kind)=false->(decide (x.oid<y.oid)
  =true-> -1=eH x y)/\(decide (x.oid<y.oid)=false->(decide (y.oid<x.oid)=true->1=eH x y)/\(decide (y.oid<x.oid)=false->(decide (x.count<y.count)=true-> -1=eH x y)/\
  (decide (x.count<y.count)=false->(decide (y.count<x.count)=true->1=eH x y)/\(decide (y.count<x.count)=false->(decide (x.call<y.call)=true-> -1=eH x y)/\(decide (x.call<
  y.call)=false->(decide (y.call<x.call)=true->1=eH x y)/\(decide (y.call<x.call)=false->(decide (x.rights<y.rights)=true-> -1=eH x y)/\(decide (x.rights<y.rights)=false
  ->(decide (y.rights<x.rights)=true->1=eH x y)/\(decide (y.rights<x.rights)=false->(decide (x.value<y.value)=true-> -1=eH x y)/\(decide (x.value<y.value)=false->(decide
  (y.value<x.value)=true->1=eH x y)/\(decide (y.value<x.value)=false->0=eH x y)))))))))))):=by
 simp only[M9,decide_eq_false_iff_not];repeat' (first|intro _|constructor)
 all_goals(unfold eH ft;grind)
theorem Hn:bW Try.prog 58 JA:=o7 (bj Aj (bj Aj dv)) (fun _=>rfl) fun a _ _=>aL (inl:=bw) (ann:=(kg [(58,4,MX 7)])) az (FJ a.1 a.2.1) (by kernel_rfl)
theorem Di (l:List Cp) (k:Sx.Key) (h5:dF l):
 (∃g,va l (bd k) g/\0=g/\l=l/\k.kind=k.kind/\k.oid=k.oid/\k.count=k.count/\k.call=k.call/\k.rights=k.rights)/\∀(g:Int),va l (bd k) g->(decide (g<aK (aa l))
  =true->(0<=g/\g< ↑(aa l))/\g.toNat<aa l/\((decide (aN l g.toNat 0=k.kind)&&(decide (aN l g.toNat 1=k.oid)&&(decide (aN l g.toNat 2=k.count)&&(decide (aN l g.toNat 3=
  k.call)&&(decide (aN l g.toNat 4=k.rights)&&true)))))=true->true=eN l (bd k))/\((decide (aN l g.toNat 0=k.kind)&&(decide (aN l g.toNat 1=k.oid)&&(decide (aN l g.toNat 2=
  k.count)&&(decide (aN l g.toNat 3=k.call)&&(decide (aN l g.toNat 4=k.rights)&&true)))))=false->aP IntKind.i64 (g+1)/\∃g',va l (bd k) g'/\(aK (aa l)-g').toNat<(aK
  (aa l)-g).toNat/\g+1=g'/\l=l/\k.kind=k.kind/\k.oid=k.oid/\k.count=k.count/\k.call=k.call/\k.rights=k.rights))/\(decide (g<aK (aa l))=false->false=eN l (bd k)):=by
 have hl:∀g:Int,g<aK (aa l)↔g<(l.length:Int):=fun g=>Iff.rfl
 refine⟨⟨0,⟨by omega,Int.natCast_nonneg _,fun j hj=>by omega⟩,rfl,rfl,rfl,rfl,rfl,rfl,rfl⟩,fun g hg=>⟨fun hlt=>?_,fun hge=>?_⟩⟩
 ·have hlt:=Nc hlt;obtain⟨h0,h1,h2⟩:=hg;have hlt:g<(l.length:Int):=hlt;have hb:=h5.2;rw[Ji h5.1 (by omega:g.toNat<l.length)]
  refine⟨⟨h0,hlt⟩,by show g.toNat<l.length;omega,fun he=>?_,fun he=>⟨by simp only[aP,bC];omega,g+1,⟨by omega,by show g+1<=(l.length:Int);omega,fun j hj=>?_⟩,?_,rfl,rfl,rfl,rfl,rfl,rfl,rfl⟩⟩
  ·have he:=Nc he;symm
   exact decide_eq_true (he▸(at_mem (by omega)).1)
  ·by_cases hjg:(j:Int)<g
   ·exact h2 j hjg
   ·have:j=g.toNat:=by omega
    subst this;exact Nb he
  ·have e1:aK (aa l)=(l.length:Int):=rfl;rw[e1];omega
 ·have hge:=Nb hge;have hge:¬g<(l.length:Int):=hge;obtain⟨h0,h1,h2⟩:=hg;symm
  refine decide_eq_false fun hm=>?_
  obtain⟨j,hj,e⟩:=List.getElem_of_mem hm;have:=(at_mem hj).2;rw[List.getElem?_eq_getElem hj,e]at this;exact h2 j (by omega) (Option.some.inj this).symm
theorem DX (l:List Cp) (k:Sx.Key) (h5:dF l):ai Try.prog 55 [.sa 0,L5 k] [.ro (.arr none 5 (.qs 5 l))] (nz (.bo (eN l (bd k)))) (fun _ _=>False):=
 aL (inl:=bw) (ann:=(kg [(55,2,Jw [0,3] (fun g=> [(5,.it .i64 g)]) (va l (bd k)) (aK (aa l)))])) az (Di l k h5) (by kernel_rfl)
theorem D2:bW Try.prog 55 FM:=o7 (bj u9 (bj qp dv)) (fun _=>rfl) fun a hq _=>by
  obtain⟨l,x,_⟩:=a;exact DX l (vj x) hq
theorem D3 (l m:List Cp) (h5:dF l/\dF m):
 ((!decide (aK (aa l)=aK (aa m)))=true->false=kb l m)/\((!decide (aK (aa l)=aK (aa m)))=false->(∃g,qE l m g/\0=g/\l=l/\m=m)/\∀(g:Int),qE l m g->
   (decide (g<aK (aa l))=true->(0<=g/\g< ↑(aa l))/\g.toNat<aa l/\(0<=g/\g< ↑(aa m))/\g.toNat<aa m/\((!(decide (aN l g.toNat 0=aN m g.toNat 0)&&(decide (aN l g.toNat 1
   =aN m g.toNat 1)&&(decide (aN l g.toNat 2=aN m g.toNat 2)&&(decide (aN l g.toNat 3=aN m g.toNat 3)&&(decide (aN l g.toNat 4=aN m g.toNat 4)&&true))))))=true->false=kb l
   m)/\((!(decide (aN l g.toNat 0=aN m g.toNat 0)&&(decide (aN l g.toNat 1=aN m g.toNat 1)&&(decide (aN l g.toNat 2=aN m g.toNat 2)&&(decide (aN l g.toNat 3=aN m g.toNat 3)&&
   (decide (aN l g.toNat 4=aN m g.toNat 4)&&true))))))=false->aP IntKind.i64 (g+1)/\∃g',qE l m g'/\(aK (aa l)-g').toNat<(aK (aa l)-g).toNat/\g+1=g'/\l=l/\m=m))
   /\(decide (g<aK (aa l))=false->true=kb l m)):=by
 have e1:aK (aa l)=(l.length:Int):=rfl;have e2:aK (aa m)=(m.length:Int):=rfl;rw[e1,e2];refine⟨fun h=>?_,fun h=>⟨⟨0,⟨by omega,Int.natCast_nonneg _,?_,fun j hj=>by omega⟩,rfl,rfl,rfl⟩,fun g hg=>⟨fun hlt=>?_,fun hge=>?_⟩⟩⟩
 ·symm
  refine decide_eq_false fun e=>?_
  subst e;simp at h
 ·show l.length=m.length
  simp at h;omega
 ·have hlt:=Nc hlt;obtain⟨h0,h1,h2,h3⟩:=hg;have h2:l.length=m.length:=h2;have hb:=h5.1.2;rw[KX h5.1.1 h5.2.1 (by omega:g.toNat<l.length) (by omega)]
  refine⟨⟨h0,hlt⟩,by show g.toNat<l.length;omega,⟨h0,by show g<(m.length:Int);omega⟩,by show g.toNat<m.length;omega,fun he=>?_,fun he=>⟨by simp only[aP,bC];omega,g+1,⟨by omega,by show g+1<=(l.length:Int);omega,h2,fun j hj=>?_⟩,by omega,rfl,rfl,rfl⟩⟩
  ·symm
   refine decide_eq_false fun e=>?_
   subst e;simp at he
  ·by_cases hjg:(j:Int)<g
   ·exact h3 j hjg
   ·have:j=g.toNat:=by omega
    subst this;simpa using he
 ·have hge:=Nb hge;obtain⟨h0,h1,h2,h3⟩:=hg;have h2:l.length=m.length:=h2;symm
  refine decide_eq_true (List.ext_getElem h2 fun j a b=>?_)
  have:=h3 j (by omega)
  have x:=(at_mem a).2;have y:=(at_mem b).2;rw[List.getElem?_eq_getElem a]at x;rw[List.getElem?_eq_getElem b]at y;rw[Option.some.inj x,Option.some.inj y,this]
theorem DA:bW Try.prog 14 G9:=o7 (bj u9 (bj u9 dv)) (fun _=>rfl) fun a hq _=>by
  obtain⟨l,m,_⟩:=a;exact aL (inl:=bw) (ann:=(kg [(14,4,Jw [0,1] (fun g=> [(5,.it .i64 g)]) (qE l m) (aK (aa l)))])) az (D3 l m hq) (by kernel_rfl)
theorem AN (l:List Cp) (h5:sO l):
 (∃g,vo l g/\0=g/\l=l/\ []=aO l g)/\∀(g:Int),vo l g->(decide (g<aK (aa l))=true->(∃g_1,qz l (aO l g) g g_1/\g=g/\0=g_1/\l=l/\aO l g=aO
  l g)/\∀(g_1:Int),qz l (aO l g) g g_1->(decide (g_1<aK (aa (aO l g)))=true->0<=g_1/\g_1< ↑(aa (aO l g)))/\(decide (g_1<aK (aa (aO l g)))=true->g_1.toNat
  <aa (aO l g))/\(decide (g_1<aK (aa (aO l g)))=true->0<=g/\g< ↑(aa l))/\(decide (g_1<aK (aa (aO l g)))=true->g.toNat<aa l)/\((decide (g_1<aK (aa (aO l
  g)))&&decide (eH (Key.mk (aN (aO l g) g_1.toNat 0) (aN (aO l g) g_1.toNat 1) (aN (aO l g) g_1.toNat 2) (aN (aO l g) g_1.toNat 3) (aN (aO l g) g_1.toNat 4) 0) (Key.mk (aN
  l g.toNat 0) (aN l g.toNat 1) (aN l g.toNat 2) (aN l g.toNat 3) (aN l g.toNat 4) 0)<0))=true->aP IntKind.i64 (g_1+1)/\∃g',qz l (aO l g) g g'/\(8200-g').toNat<(8200-
  g_1).toNat/\g=g/\g_1+1=g'/\l=l/\aO l g=aO l g)/\((decide (g_1<aK (aa (aO l g)))&&decide (eH (Key.mk (aN (aO l g) g_1.toNat 0) (aN (aO l g) g_1.toNat 1)
  (aN (aO l g) g_1.toNat 2) (aN (aO l g) g_1.toNat 3) (aN (aO l g) g_1.toNat 4) 0) (Key.mk (aN l g.toNat 0) (aN l g.toNat 1) (aN l g.toNat 2) (aN l g.toNat 3) (aN l g.toNat 4) 0)<
  0))=false->G4 0 g_1 (aK (aa (aO l g)))/\(LG (Int.toNat 0) g_1.toNat (aa (aO l g))/\jg (aa (gu (aO l g) (Int.toNat 0) g_1.toNat)) 40)/\(0<=g/\g< ↑(aa l))/\g.toNat<
  aa l/\eh (aa (gu (aO l g) (Int.toNat 0) g_1.toNat)) 40/\G4 g_1 (aK (aa (aO l g))) (aK (aa (aO l g)))/\(LG g_1.toNat (aK (aa (aO l g))).toNat (aa (aO l g))/\
  Ca (aa (ba (gu (aO l g) (Int.toNat 0) g_1.toNat) [aN l g.toNat 0,aN l g.toNat 1,aN l g.toNat 2,aN l g.toNat 3,aN l g.toNat 4])) (aa (gu (aO l g) g_1.toNat (aK (aa
  (aO l g))).toNat)) 40)/\aP IntKind.i64 (g+1)/\∃g',vo l g'/\(aK (aa l)-g').toNat<(aK (aa l)-g).toNat/\g+1=g'/\l=l/\sM (ba (gu (aO l g) (Int.toNat 0)
  g_1.toNat) [aN l g.toNat 0,aN l g.toNat 1,aN l g.toNat 2,aN l g.toNat 3,aN l g.toNat 4]) (gu (aO l g) g_1.toNat (aK (aa (aO l g))).toNat)=aO l g'))/\(decide (g<aK (aa
  l))=false->∀(nid:Nat),some (V.sa nid)=some (V.sa nid)/\some [ah.arr (some 43) 5 (TL.qs 5 (aO l g))]=some [ah.arr (some 43) 5 (TL.qs 5 (gX l))]):=by
 have e1:aK (aa l)=(l.length:Int):=rfl;refine⟨⟨0,⟨by omega,Int.natCast_nonneg _,h5⟩,rfl,rfl,rfl⟩,fun g hg=>⟨fun hlt=>?_,fun hge nid=>⟨rfl,?_⟩⟩⟩
 ·have hlt:=Nc hlt;obtain⟨h0,h1,_⟩:=hg;have hlt:g<(l.length:Int):=hlt;obtain⟨s1,s2⟩:=BF h5 g;have hnext:=Bb h0 hlt;have hnum:=uR (l:=l) (j:=g.toNat) h5.2.1 (by omega)
  have hbig:=h5.2.2;simp only[D1];generalize aO l g=m at *
  have e2:aK (aa m)=(m.length:Int):=rfl;have e3:((aa m:Nat):Int)=(m.length:Int):=rfl;have e4:aa m=m.length:=rfl;rw[hnum,e2,e3];refine⟨⟨0,⟨by omega,Int.natCast_nonneg _,fun j hj=>by omega⟩,by trivial,by trivial,by trivial,by trivial⟩,fun i hi=>?_⟩
  obtain⟨i0,i1,i2⟩:=hi;have i1:i<=(m.length:Int):=i1;refine⟨fun h=>⟨i0,Nc h⟩,fun h=>by have:=Nc h;show i.toNat<m.length;omega,fun _=>⟨h0,hlt⟩,fun _=>by show g.toNat<l.length;omega,fun hc=>?_,fun hc=>?_⟩
  ·simp only[M8,M9]at hc;refine⟨by simp only[aP,bC];omega,i+1,⟨by omega,by show i+1<=(m.length:Int);omega,fun j hj=>?_⟩,by omega,by trivial,by trivial,by trivial,by trivial⟩
   by_cases hji:(j:Int)<i
   ·exact i2 j hji
   ·have:j=i.toNat:=by omega
    subst this;exact hc.2
  ·have hst:i<(m.length:Int)->eK (cT m i.toNat) (cT l g.toNat)=false:=fun h=>by
    have hd:decide (i<(m.length:Int))=true:=decide_eq_true h;rw[hd,Bool.true_and]at hc;exact hc
   have hins:=Iy i0 i1 i2 hst;have l1:aa (gu m (Int.toNat 0) i.toNat)<=8192:=by unfold aa gu;simp;omega
   have l2:aa (gu m i.toNat m.length)<=8192:=by unfold aa gu;simp;omega
   have l3:aa (ba (gu m (Int.toNat 0) i.toNat) (cT l g.toNat))<=8193:=by
    have:aa (ba (gu m (Int.toNat 0) i.toNat) (cT l g.toNat))=aa (gu m (Int.toNat 0) i.toNat)+1:=by unfold aa ba;simp
    omega
   refine⟨⟨by omega,i0,i1⟩,⟨⟨by show 0<=_;omega,by show i.toNat<=m.length;omega⟩,?_⟩,⟨h0,hlt⟩,by show g.toNat<l.length;omega,?_,⟨i0,i1,by omega⟩,⟨⟨by rw[Int.toNat_natCast];omega,by rw[Int.toNat_natCast];exact Nat.le_refl _⟩,?_⟩,by simp only[aP,bC];omega,g+1,⟨by omega,by show g+1<=(l.length:Int);omega,h5⟩,by rw[e1];omega,by trivial,by trivial,?_⟩
   ·unfold jg;simp only[maxLen];omega
   ·unfold eh;simp only[maxLen];omega
   ·rw[Int.toNat_natCast];unfold Ca;simp only[maxLen];omega
   ·rw[hnext,Int.toNat_natCast];exact hins
 ·have hge:=Nb hge;obtain⟨h0,h1,_⟩:=hg;have h1:g<=(l.length:Int):=h1;have:g.toNat=l.length:=by rw[e1]at hge;omega
  unfold aO;rw[this,List.take_length]
theorem B0:bW Try.prog 32 Dd:=vh (π:=fun _=> [1]) (bj u9 dv) (fun _=>by simp) (fun _ _=>rfl) fun a hq _=>by
  obtain⟨l,_⟩:=a;exact cK (inl:=bw) (ann:=(kg [(32,3,Md [0] (fun g=> [(4,.it .i64 g)]) 3 u7 5 (fun g=> .qs 5 (aO l g)) (vo l) (aK (aa l))),(32,6,Mt [0,3,4])])) (an xi (an Hn az)) cM (AN l hq) (by kernel_rfl)
end Go.Proofs.Ytmfbohanboiklaa
