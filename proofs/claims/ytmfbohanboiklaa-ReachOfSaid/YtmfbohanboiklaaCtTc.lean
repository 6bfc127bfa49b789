import Derived.Test.YtmfbohanboiklaaCtTb
import Derived.Test.YtmfbohanboiklaaSpHc
set_option linter.unusedSimpArgs false
set_option linter.unusedVariables false
namespace Go.Proofs.Ytmfbohanboiklaa
open Go.Sx
set_option maxRecDepth 100000
theorem FE (L:List Sx.Obj) (k:Key) (i:Int) (hk:bJ .i64 k.rights) (hq:uR L k i):
 (0<=k.oid/\k.oid< ↑(ae L))/\(0<=i/\i< ↑16)/\k.oid.toNat<ae L/\(yL 2/\br IntKind.i64 (k.rights.tdiv 2))/\(yL 2/\br IntKind.i64 ((k.rights.tdiv 2).tmod 2))/\(decide
  ((k.rights.tdiv 2).tmod 2=1)=true->eh (bd L ((ay L k.oid.toNat free).slots.at i.toNat))=cU L k i)/\(decide ((k.rights.tdiv 2).tmod 2=1)=false->bd L ((ay L k.oid.toNat
  free).slots.at i.toNat)=cU L k i):=by
 obtain⟨h0,h1,h2,h3⟩:=hq;have e2:yL 2:=by unfold yL;omega
 refine⟨⟨h2,h3⟩,⟨h0,by omega⟩,by omega,⟨e2,uG hk (.inr (.inl rfl))⟩,⟨e2,rG _⟩,fun h=>?_,fun h=>?_⟩
 ·unfold cU vj bE;rw[MB h]
 ·unfold cU vj bE;rw[MA (by rw[h];simp)]
theorem FU:bW Try.prog 30 HJ:=
 rF (bh yt (bh yQ (bh mA dJ))) (fun _=>rfl) fun a hq hok=>by
  obtain⟨L,k,i,_⟩:=a;exact aK (inl:=bx) (ann:=bV) (an wM (an B6 az)) (FE L k i hok.2.1.2.2.2.2.1 hq) (by kernel_rfl)
theorem Fu (L:List Sx.Obj) (oid:Int) (hL:j5 L):
 ((!decide (aE L oid=0))=true->dX L oid=false/\Value.slice none 0 0=Value.slice none 0 0/\aE L oid=aE L oid)/\((!decide (aE L oid=0))=false->j5 L/\dX L oid=
   true/\∀(nid:Nat),some (V.tp [V.sa nid,V.ci IntKind.i64 0])=some (V.tp [V.sa nid,V.ci IntKind.i64 0])/\some [ah.arr (some 43) 5 (TL.qs 5 (dq L oid))]=some [ah.arr (some 43) 5 (TL.qs 5
   (dq L oid))]):=by
 unfold dX;refine⟨fun h=>⟨by simpa using h,rfl,rfl⟩,fun h=>⟨hL,by simpa using h,fun nid=>⟨rfl,rfl⟩⟩⟩
theorem Gb (oid:Int):
 ((!decide (aE [] oid=0))=true->dX [] oid=false/\Value.slice none 0 0=Value.slice none 0 0/\aE [] oid=aE [] oid)/\((!decide (aE [] oid=0))=false->False/\dX [] oid
   =true/\∀(nid:Nat),some (V.tp [V.sa nid,V.ci IntKind.i64 0])=some (V.tp [V.sa nid,V.ci IntKind.i64 0])/\some [ah.arr (some 43) 5 (TL.qs 5 (dq [] oid))]=some [ah.arr (some 43) 5 (TL.qs
   5 (dq [] oid))]):=by
 unfold dX;refine⟨fun h=>⟨by simpa using h,rfl,rfl⟩,fun h=>?_⟩
 rw[jD]at h;simp at h
theorem C6:sF Try.prog 13 GW:=by
 unfold GW xw
 refine Ca (bh (Em tS eS) (bh mA dJ)) (fun _=>rfl) (fun _=>by simp) fun a hq _=>by
  obtain⟨o,oid,_⟩:=a;cases o with
  |none=>exact c8 (inl:=bx) (ann:=bV) (an sr (an BN az)) de (Gb oid) (by kernel_rfl)
  |some L=>exact c8 (inl:=bx) (ann:=bV) (an sr (an BN az)) de (Fu L oid hq) (by kernel_rfl)
theorem BO (k:Sx.Key):
 Key.mk k.kind k.oid k.count k.call k.rights void.value=Key.mk k.kind k.oid k.count k.call k.rights 0:=by
 rfl
theorem wP:bW Try.prog 31 Fe:=rF (bh qv dJ) (fun _=>rfl) fun a _ _=>aK (inl:=bx) (ann:=bV) az (BO (uN a.1)) (by kernel_rfl)
theorem Fl (x y:Sx.Key):
 (decide (x.kind<y.kind)=true-> -1=eD x y)/\(decide (x.kind<y.kind)=false->(decide (y.kind<x.kind)=true->1=eD x y)/\(decide (y.kind<x.kind)=false->(decide (x.oid<y.oid)
  =true-> -1=eD x y)/\(decide (x.oid<y.oid)=false->(decide (y.oid<x.oid)=true->1=eD x y)/\(decide (y.oid<x.oid)=false->(decide (x.count<y.count)=true-> -1=eD x y)/\
  (decide (x.count<y.count)=false->(decide (y.count<x.count)=true->1=eD x y)/\(decide (y.count<x.count)=false->(decide (x.call<y.call)=true-> -1=eD x y)/\(decide (x.call<
  y.call)=false->(decide (y.call<x.call)=true->1=eD x y)/\(decide (y.call<x.call)=false->(decide (x.rights<y.rights)=true-> -1=eD x y)/\(decide (x.rights<y.rights)=false
  ->(decide (y.rights<x.rights)=true->1=eD x y)/\(decide (y.rights<x.rights)=false->(decide (x.value<y.value)=true-> -1=eD x y)/\(decide (x.value<y.value)=false->(decide
  (y.value<x.value)=true->1=eD x y)/\(decide (y.value<x.value)=false->0=eD x y)))))))))))):=by
 simp only[Mv,decide_eq_false_iff_not];repeat' (first|intro _|constructor)
 all_goals(unfold eD fi;grind)
theorem Fo:bW Try.prog 58 HZ:=rF (bh yQ (bh yQ dJ)) (fun _=>rfl) fun a _ _=>aK (inl:=bx) (ann:=(kQ [(58,4,Mg 7)])) az (Fl a.1 a.2.1) (by kernel_rfl)
theorem Ej (l:List Cp) (k:Sx.Key) (h5:dI l):
 (∃g,u9 l (a8 k) g/\0=g/\l=l/\k.kind=k.kind/\k.oid=k.oid/\k.count=k.count/\k.call=k.call/\k.rights=k.rights)/\∀(g:Int),u9 l (a8 k) g->(decide (g<aZ (ae l))
  =true->(0<=g/\g< ↑(ae l))/\g.toNat<ae l/\((decide (bc l g.toNat 0=k.kind)&&(decide (bc l g.toNat 1=k.oid)&&(decide (bc l g.toNat 2=k.count)&&(decide (bc l g.toNat 3=
  k.call)&&(decide (bc l g.toNat 4=k.rights)&&true)))))=true->true=eH l (a8 k))/\((decide (bc l g.toNat 0=k.kind)&&(decide (bc l g.toNat 1=k.oid)&&(decide (bc l g.toNat 2=
  k.count)&&(decide (bc l g.toNat 3=k.call)&&(decide (bc l g.toNat 4=k.rights)&&true)))))=false->br IntKind.i64 (g+1)/\∃g',u9 l (a8 k) g'/\(aZ (ae l)-g').toNat<(aZ
  (ae l)-g).toNat/\g+1=g'/\l=l/\k.kind=k.kind/\k.oid=k.oid/\k.count=k.count/\k.call=k.call/\k.rights=k.rights))/\(decide (g<aZ (ae l))=false->false=eH l (a8 k)):=by
 have hl:∀g:Int,g<aZ (ae l)↔g<(l.length:Int):=fun g=>Iff.rfl
 refine⟨⟨0,⟨by omega,Int.natCast_nonneg _,fun j hj=>by omega⟩,rfl,rfl,rfl,rfl,rfl,rfl,rfl⟩,fun g hg=>⟨fun hlt=>?_,fun hge=>?_⟩⟩
 ·have hlt:=My hlt;obtain⟨h0,h1,h2⟩:=hg;have hlt:g<(l.length:Int):=hlt;have hb:=h5.2;rw[HV h5.1 (by omega:g.toNat<l.length)]
  refine⟨⟨h0,hlt⟩,by show g.toNat<l.length;omega,fun he=>?_,fun he=>⟨by simp only[br,bJ];omega,g+1,⟨by omega,by show g+1<=(l.length:Int);omega,fun j hj=>?_⟩,?_,rfl,rfl,rfl,rfl,rfl,rfl,rfl⟩⟩
  ·have he:=My he;symm
   exact decide_eq_true (he▸(at_mem (by omega)).1)
  ·by_cases hjg:(j:Int)<g
   ·exact h2 j hjg
   ·have:j=g.toNat:=by omega
    subst this;exact Mx he
  ·have e1:aZ (ae l)=(l.length:Int):=rfl;rw[e1];omega
 ·have hge:=Mx hge;have hge:¬g<(l.length:Int):=hge;obtain⟨h0,h1,h2⟩:=hg;symm
  refine decide_eq_false fun hm=>?_
  obtain⟨j,hj,e⟩:=List.getElem_of_mem hm;have:=(at_mem hj).2;rw[List.getElem?_eq_getElem hj,e]at this;exact h2 j (by omega) (Option.some.inj this).symm
theorem C4 (l:List Cp) (k:Sx.Key) (h5:dI l):ai Try.prog 55 [.sa 0,Lg k] [.ro (.arr none 5 (.qs 5 l))] (oB (.bo (eH l (a8 k)))) (fun _ _=>False):=
 aK (inl:=bx) (ann:=(kQ [(55,2,Ji [0,3] (fun g=> [(5,.it .i64 g)]) (u9 l (a8 k)) (aZ (ae l)))])) az (Ej l k h5) (by kernel_rfl)
theorem Cl:bW Try.prog 55 Fg:=rF (bh uT (bh qv dJ)) (fun _=>rfl) fun a hq _=>by
  obtain⟨l,x,_⟩:=a;exact C4 l (uN x) hq
theorem D4 (l m:List Cp) (h5:dI l/\dI m):
 ((!decide (aZ (ae l)=aZ (ae m)))=true->false=jH l m)/\((!decide (aZ (ae l)=aZ (ae m)))=false->(∃g,p5 l m g/\0=g/\l=l/\m=m)/\∀(g:Int),p5 l m g->
   (decide (g<aZ (ae l))=true->(0<=g/\g< ↑(ae l))/\g.toNat<ae l/\(0<=g/\g< ↑(ae m))/\g.toNat<ae m/\((!(decide (bc l g.toNat 0=bc m g.toNat 0)&&(decide (bc l g.toNat 1
   =bc m g.toNat 1)&&(decide (bc l g.toNat 2=bc m g.toNat 2)&&(decide (bc l g.toNat 3=bc m g.toNat 3)&&(decide (bc l g.toNat 4=bc m g.toNat 4)&&true))))))=true->false=jH l
   m)/\((!(decide (bc l g.toNat 0=bc m g.toNat 0)&&(decide (bc l g.toNat 1=bc m g.toNat 1)&&(decide (bc l g.toNat 2=bc m g.toNat 2)&&(decide (bc l g.toNat 3=bc m g.toNat 3)&&
   (decide (bc l g.toNat 4=bc m g.toNat 4)&&true))))))=false->br IntKind.i64 (g+1)/\∃g',p5 l m g'/\(aZ (ae l)-g').toNat<(aZ (ae l)-g).toNat/\g+1=g'/\l=l/\m=m))
   /\(decide (g<aZ (ae l))=false->true=jH l m)):=by
 have e1:aZ (ae l)=(l.length:Int):=rfl;have e2:aZ (ae m)=(m.length:Int):=rfl;rw[e1,e2];refine⟨fun h=>?_,fun h=>⟨⟨0,⟨by omega,Int.natCast_nonneg _,?_,fun j hj=>by omega⟩,rfl,rfl,rfl⟩,fun g hg=>⟨fun hlt=>?_,fun hge=>?_⟩⟩⟩
 ·symm
  refine decide_eq_false fun e=>?_
  subst e;simp at h
 ·show l.length=m.length
  simp at h;omega
 ·have hlt:=My hlt;obtain⟨h0,h1,h2,h3⟩:=hg;have h2:l.length=m.length:=h2;have hb:=h5.1.2;rw[Kc h5.1.1 h5.2.1 (by omega:g.toNat<l.length) (by omega)]
  refine⟨⟨h0,hlt⟩,by show g.toNat<l.length;omega,⟨h0,by show g<(m.length:Int);omega⟩,by show g.toNat<m.length;omega,fun he=>?_,fun he=>⟨by simp only[br,bJ];omega,g+1,⟨by omega,by show g+1<=(l.length:Int);omega,h2,fun j hj=>?_⟩,by omega,rfl,rfl,rfl⟩⟩
  ·symm
   refine decide_eq_false fun e=>?_
   subst e;simp at he
  ·by_cases hjg:(j:Int)<g
   ·exact h3 j hjg
   ·have:j=g.toNat:=by omega
    subst this;simpa using he
 ·have hge:=Mx hge;obtain⟨h0,h1,h2,h3⟩:=hg;have h2:l.length=m.length:=h2;symm
  refine decide_eq_true (List.ext_getElem h2 fun j a b=>?_)
  have:=h3 j (by omega)
  have x:=(at_mem a).2;have y:=(at_mem b).2;rw[List.getElem?_eq_getElem a]at x;rw[List.getElem?_eq_getElem b]at y;rw[Option.some.inj x,Option.some.inj y,this]
theorem BI:bW Try.prog 14 GC:=rF (bh uT (bh uT dJ)) (fun _=>rfl) fun a hq _=>by
  obtain⟨l,m,_⟩:=a;exact aK (inl:=bx) (ann:=(kQ [(14,4,Ji [0,1] (fun g=> [(5,.it .i64 g)]) (p5 l m) (aZ (ae l)))])) az (D4 l m hq) (by kernel_rfl)
theorem A7 (l:List Cp) (h5:ru l):
 (∃g,vl l g/\0=g/\l=l/\ []=aM l g)/\∀(g:Int),vl l g->(decide (g<aZ (ae l))=true->(∃g_1,qw l (aM l g) g g_1/\g=g/\0=g_1/\l=l/\aM l g=aM
  l g)/\∀(g_1:Int),qw l (aM l g) g g_1->(decide (g_1<aZ (ae (aM l g)))=true->0<=g_1/\g_1< ↑(ae (aM l g)))/\(decide (g_1<aZ (ae (aM l g)))=true->g_1.toNat
  <ae (aM l g))/\(decide (g_1<aZ (ae (aM l g)))=true->0<=g/\g< ↑(ae l))/\(decide (g_1<aZ (ae (aM l g)))=true->g.toNat<ae l)/\((decide (g_1<aZ (ae (aM l
  g)))&&decide (eD (Key.mk (bc (aM l g) g_1.toNat 0) (bc (aM l g) g_1.toNat 1) (bc (aM l g) g_1.toNat 2) (bc (aM l g) g_1.toNat 3) (bc (aM l g) g_1.toNat 4) 0) (Key.mk (bc
  l g.toNat 0) (bc l g.toNat 1) (bc l g.toNat 2) (bc l g.toNat 3) (bc l g.toNat 4) 0)<0))=true->br IntKind.i64 (g_1+1)/\∃g',qw l (aM l g) g g'/\(8200-g').toNat<(8200-
  g_1).toNat/\g=g/\g_1+1=g'/\l=l/\aM l g=aM l g)/\((decide (g_1<aZ (ae (aM l g)))&&decide (eD (Key.mk (bc (aM l g) g_1.toNat 0) (bc (aM l g) g_1.toNat 1)
  (bc (aM l g) g_1.toNat 2) (bc (aM l g) g_1.toNat 3) (bc (aM l g) g_1.toNat 4) 0) (Key.mk (bc l g.toNat 0) (bc l g.toNat 1) (bc l g.toNat 2) (bc l g.toNat 3) (bc l g.toNat 4) 0)<
  0))=false->EK 0 g_1 (aZ (ae (aM l g)))/\(KX (Int.toNat 0) g_1.toNat (ae (aM l g))/\ja (ae (gf (aM l g) (Int.toNat 0) g_1.toNat)) 40)/\(0<=g/\g< ↑(ae l))/\g.toNat<
  ae l/\e9 (ae (gf (aM l g) (Int.toNat 0) g_1.toNat)) 40/\EK g_1 (aZ (ae (aM l g))) (aZ (ae (aM l g)))/\(KX g_1.toNat (aZ (ae (aM l g))).toNat (ae (aM l g))/\
  DH (ae (bj (gf (aM l g) (Int.toNat 0) g_1.toNat) [bc l g.toNat 0,bc l g.toNat 1,bc l g.toNat 2,bc l g.toNat 3,bc l g.toNat 4])) (ae (gf (aM l g) g_1.toNat (aZ (ae
  (aM l g))).toNat)) 40)/\br IntKind.i64 (g+1)/\∃g',vl l g'/\(aZ (ae l)-g').toNat<(aZ (ae l)-g).toNat/\g+1=g'/\l=l/\rB (bj (gf (aM l g) (Int.toNat 0)
  g_1.toNat) [bc l g.toNat 0,bc l g.toNat 1,bc l g.toNat 2,bc l g.toNat 3,bc l g.toNat 4]) (gf (aM l g) g_1.toNat (aZ (ae (aM l g))).toNat)=aM l g'))/\(decide (g<aZ (ae
  l))=false->∀(nid:Nat),some (V.sa nid)=some (V.sa nid)/\some [ah.arr (some 43) 5 (TL.qs 5 (aM l g))]=some [ah.arr (some 43) 5 (TL.qs 5 (ib l))]):=by
 have e1:aZ (ae l)=(l.length:Int):=rfl;refine⟨⟨0,⟨by omega,Int.natCast_nonneg _,h5⟩,rfl,rfl,rfl⟩,fun g hg=>⟨fun hlt=>?_,fun hge nid=>⟨rfl,?_⟩⟩⟩
 ·have hlt:=My hlt;obtain⟨h0,h1,_⟩:=hg;have hlt:g<(l.length:Int):=hlt;obtain⟨s1,s2⟩:=Be h5 g;have hnext:=A6 h0 hlt;have hnum:=vf (l:=l) (j:=g.toNat) h5.2.1 (by omega)
  have hbig:=h5.2.2;simp only[Ek];generalize aM l g=m at *
  have e2:aZ (ae m)=(m.length:Int):=rfl;have e3:((ae m:Nat):Int)=(m.length:Int):=rfl;have e4:ae m=m.length:=rfl;rw[hnum,e2,e3];refine⟨⟨0,⟨by omega,Int.natCast_nonneg _,fun j hj=>by omega⟩,by trivial,by trivial,by trivial,by trivial⟩,fun i hi=>?_⟩
  obtain⟨i0,i1,i2⟩:=hi;have i1:i<=(m.length:Int):=i1;refine⟨fun h=>⟨i0,My h⟩,fun h=>by have:=My h;show i.toNat<m.length;omega,fun _=>⟨h0,hlt⟩,fun _=>by show g.toNat<l.length;omega,fun hc=>?_,fun hc=>?_⟩
  ·simp only[Mu,Mv]at hc;refine⟨by simp only[br,bJ];omega,i+1,⟨by omega,by show i+1<=(m.length:Int);omega,fun j hj=>?_⟩,by omega,by trivial,by trivial,by trivial,by trivial⟩
   by_cases hji:(j:Int)<i
   ·exact i2 j hji
   ·have:j=i.toNat:=by omega
    subst this;exact hc.2
  ·have hst:i<(m.length:Int)->eE (di m i.toNat) (di l g.toNat)=false:=fun h=>by
    have hd:decide (i<(m.length:Int))=true:=decide_eq_true h;rw[hd,Bool.true_and]at hc;exact hc
   have hins:=IM i0 i1 i2 hst;have l1:ae (gf m (Int.toNat 0) i.toNat)<=8192:=by unfold ae gf;simp;omega
   have l2:ae (gf m i.toNat m.length)<=8192:=by unfold ae gf;simp;omega
   have l3:ae (bj (gf m (Int.toNat 0) i.toNat) (di l g.toNat))<=8193:=by
    have:ae (bj (gf m (Int.toNat 0) i.toNat) (di l g.toNat))=ae (gf m (Int.toNat 0) i.toNat)+1:=by unfold ae bj;simp
    omega
   refine⟨⟨by omega,i0,i1⟩,⟨⟨by show 0<=_;omega,by show i.toNat<=m.length;omega⟩,?_⟩,⟨h0,hlt⟩,by show g.toNat<l.length;omega,?_,⟨i0,i1,by omega⟩,⟨⟨by rw[Int.toNat_natCast];omega,by rw[Int.toNat_natCast];exact Nat.le_refl _⟩,?_⟩,by simp only[br,bJ];omega,g+1,⟨by omega,by show g+1<=(l.length:Int);omega,h5⟩,by rw[e1];omega,by trivial,by trivial,?_⟩
   ·unfold ja;simp only[maxLen];omega
   ·unfold e9;simp only[maxLen];omega
   ·rw[Int.toNat_natCast];unfold DH;simp only[maxLen];omega
   ·rw[hnext,Int.toNat_natCast];exact hins
 ·have hge:=Mx hge;obtain⟨h0,h1,_⟩:=hg;have h1:g<=(l.length:Int):=h1;have:g.toNat=l.length:=by rw[e1]at hge;omega
  unfold aM;rw[this,List.take_length]
theorem An:bW Try.prog 32 Et:=uD (π:=fun _=> [1]) (bh uT dJ) (fun _=>by simp) (fun _ _=>rfl) fun a hq _=>by
  obtain⟨l,_⟩:=a;exact c8 (inl:=bx) (ann:=(kQ [(32,3,L5 [0] (fun g=> [(4,.it .i64 g)]) 3 vm 5 (fun g=> .qs 5 (aM l g)) (vl l) (aZ (ae l))),(32,6,LA [0,3,4])])) (an wP (an Fo az)) de (A7 l hq) (by kernel_rfl)
end Go.Proofs.Ytmfbohanboiklaa
