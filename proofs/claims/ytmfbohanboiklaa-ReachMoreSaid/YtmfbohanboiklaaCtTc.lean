import Derived.Test.YtmfbohanboiklaaCtTb
import Derived.Test.YtmfbohanboiklaaSpHc
set_option linter.unusedSimpArgs false
set_option linter.unusedVariables false
namespace Go.Proofs.Ytmfbohanboiklaa
open Go.Sx
set_option maxRecDepth 100000
theorem Hs (L:List Sx.Obj) (k:Key) (i:Int) (hk:bE .i64 k.rights) (hq:vt L k i):
 (0<=k.oid/\k.oid< ↑(aa L))/\(0<=i/\i< ↑16)/\k.oid.toNat<aa L/\(tq 2/\aO IntKind.i64 (k.rights.tdiv 2))/\(tq 2/\aO IntKind.i64 ((k.rights.tdiv 2).tmod 2))/\(decide
  ((k.rights.tdiv 2).tmod 2=1)=true->cI (aT L ((aq L k.oid.toNat free).slots.at i.toNat))=dc L k i)/\(decide ((k.rights.tdiv 2).tmod 2=1)=false->aT L ((aq L k.oid.toNat
  free).slots.at i.toNat)=dc L k i):=by
 obtain⟨h0,h1,h2,h3⟩:=hq;have e2:tq 2:=by unfold tq;omega
 refine⟨⟨h2,h3⟩,⟨h0,by omega⟩,by omega,⟨e2,vo hk (.inr (.inl rfl))⟩,⟨e2,rZ _⟩,fun h=>?_,fun h=>?_⟩
 ·unfold dc vY br;rw[NX h]
 ·unfold dc vY br;rw[NW (by rw[h];simp)]
theorem Hb:bW Try.prog 30 Kl:=
 nB (a8 ve (a8 Ac (a8 mX dn))) (fun _=>rfl) fun a hq hok=>by
  obtain⟨L,k,i,_⟩:=a;exact aM (inl:=bu) (ann:=bZ) (ak xb (ak wX aA)) (Hs L k i hok.2.1.2.2.2.2.1 hq) (by kernel_rfl)
theorem Gn (L:List Sx.Obj) (oid:Int) (hL:dW L):
 ((!decide (az L oid=0))=true->cc L oid=false/\Value.slice none 0 0=Value.slice none 0 0/\az L oid=az L oid)/\((!decide (az L oid=0))=false->dW L/\cc L oid=
   true/\∀(nid:Nat),some (V.tp [V.sa nid,V.ci IntKind.i64 0])=some (V.tp [V.sa nid,V.ci IntKind.i64 0])/\some [ah.arr (some 43) 5 (TL.qs 5 (aI L oid))]=some [ah.arr (some 43) 5 (TL.qs 5
   (aI L oid))]):=by
 unfold cc;refine⟨fun h=>⟨by simpa using h,rfl,rfl⟩,fun h=>⟨hL,by simpa using h,fun nid=>⟨rfl,rfl⟩⟩⟩
theorem GN (oid:Int):
 ((!decide (az [] oid=0))=true->cc [] oid=false/\Value.slice none 0 0=Value.slice none 0 0/\az [] oid=az [] oid)/\((!decide (az [] oid=0))=false->False/\cc [] oid
   =true/\∀(nid:Nat),some (V.tp [V.sa nid,V.ci IntKind.i64 0])=some (V.tp [V.sa nid,V.ci IntKind.i64 0])/\some [ah.arr (some 43) 5 (TL.qs 5 (aI [] oid))]=some [ah.arr (some 43) 5 (TL.qs
   5 (aI [] oid))]):=by
 unfold cc;refine⟨fun h=>⟨by simpa using h,rfl,rfl⟩,fun h=>?_⟩
 rw[jX]at h;simp at h
theorem vy:tr Try.prog 13 Ij:=by
 unfold Ij yE
 refine ET (a8 (ER tS eS) (a8 mX dn)) (fun _=>rfl) (fun _=>by simp) fun a hq _=>by
  obtain⟨o,oid,_⟩:=a;cases o with
  |none=>exact cE (inl:=bu) (ann:=bZ) (ak sb (ak EC aA)) cH (GN oid) (by kernel_rfl)
  |some L=>exact cE (inl:=bu) (ann:=bZ) (ak sb (ak EC aA)) cH (Gn L oid hq) (by kernel_rfl)
theorem Ev (k:Sx.Key):
 Key.mk k.kind k.oid k.count k.call k.rights void.value=Key.mk k.kind k.oid k.count k.call k.rights 0:=by
 rfl
theorem xd:bW Try.prog 31 Hx:=nB (a8 oz dn) (fun _=>rfl) fun a _ _=>aM (inl:=bu) (ann:=bZ) aA (Ev (rX a.1)) (by kernel_rfl)
theorem Ho (x y:Sx.Key):
 (decide (x.kind<y.kind)=true-> -1=eL x y)/\(decide (x.kind<y.kind)=false->(decide (y.kind<x.kind)=true->1=eL x y)/\(decide (y.kind<x.kind)=false->(decide (x.oid<y.oid)
  =true-> -1=eL x y)/\(decide (x.oid<y.oid)=false->(decide (y.oid<x.oid)=true->1=eL x y)/\(decide (y.oid<x.oid)=false->(decide (x.count<y.count)=true-> -1=eL x y)/\
  (decide (x.count<y.count)=false->(decide (y.count<x.count)=true->1=eL x y)/\(decide (y.count<x.count)=false->(decide (x.call<y.call)=true-> -1=eL x y)/\(decide (x.call<
  y.call)=false->(decide (y.call<x.call)=true->1=eL x y)/\(decide (y.call<x.call)=false->(decide (x.rights<y.rights)=true-> -1=eL x y)/\(decide (x.rights<y.rights)=false
  ->(decide (y.rights<x.rights)=true->1=eL x y)/\(decide (y.rights<x.rights)=false->(decide (x.value<y.value)=true-> -1=eL x y)/\(decide (x.value<y.value)=false->(decide
  (y.value<x.value)=true->1=eL x y)/\(decide (y.value<x.value)=false->0=eL x y)))))))))))):=by
 simp only[NQ,decide_eq_false_iff_not];repeat' (first|intro _|constructor)
 all_goals(unfold eL fw;grind)
theorem GQ:bW Try.prog 58 JF:=nB (a8 Ac (a8 Ac dn)) (fun _=>rfl) fun a _ _=>aM (inl:=bu) (ann:=(jb [(58,4,Ny 7)])) aA (Ho a.1 a.2.1) (by kernel_rfl)
theorem DI (l:List Cp) (k:Sx.Key) (h5:c9 l):
 (∃g,vu l (bc k) g/\0=g/\l=l/\k.kind=k.kind/\k.oid=k.oid/\k.count=k.count/\k.call=k.call/\k.rights=k.rights)/\∀(g:Int),vu l (bc k) g->(decide (g<aJ (aa l))
  =true->(0<=g/\g< ↑(aa l))/\g.toNat<aa l/\((decide (aK l g.toNat 0=k.kind)&&(decide (aK l g.toNat 1=k.oid)&&(decide (aK l g.toNat 2=k.count)&&(decide (aK l g.toNat 3=
  k.call)&&(decide (aK l g.toNat 4=k.rights)&&true)))))=true->true=eR l (bc k))/\((decide (aK l g.toNat 0=k.kind)&&(decide (aK l g.toNat 1=k.oid)&&(decide (aK l g.toNat 2=
  k.count)&&(decide (aK l g.toNat 3=k.call)&&(decide (aK l g.toNat 4=k.rights)&&true)))))=false->aO IntKind.i64 (g+1)/\∃g',vu l (bc k) g'/\(aJ (aa l)-g').toNat<(aJ
  (aa l)-g).toNat/\g+1=g'/\l=l/\k.kind=k.kind/\k.oid=k.oid/\k.count=k.count/\k.call=k.call/\k.rights=k.rights))/\(decide (g<aJ (aa l))=false->false=eR l (bc k)):=by
 have hl:∀g:Int,g<aJ (aa l)↔g<(l.length:Int):=fun g=>Iff.rfl
 refine⟨⟨0,⟨by omega,Int.natCast_nonneg _,fun j hj=>by omega⟩,rfl,rfl,rfl,rfl,rfl,rfl,rfl⟩,fun g hg=>⟨fun hlt=>?_,fun hge=>?_⟩⟩
 ·have hlt:=NU hlt;obtain⟨h0,h1,h2⟩:=hg;have hlt:g<(l.length:Int):=hlt;have hb:=h5.2;rw[I9 h5.1 (by omega:g.toNat<l.length)]
  refine⟨⟨h0,hlt⟩,by show g.toNat<l.length;omega,fun he=>?_,fun he=>⟨by simp only[aO,bE];omega,g+1,⟨by omega,by show g+1<=(l.length:Int);omega,fun j hj=>?_⟩,?_,rfl,rfl,rfl,rfl,rfl,rfl,rfl⟩⟩
  ·have he:=NU he;symm
   exact decide_eq_true (he▸(at_mem (by omega)).1)
  ·by_cases hjg:(j:Int)<g
   ·exact h2 j hjg
   ·have:j=g.toNat:=by omega
    subst this;exact NT he
  ·have e1:aJ (aa l)=(l.length:Int):=rfl;rw[e1];omega
 ·have hge:=NT hge;have hge:¬g<(l.length:Int):=hge;obtain⟨h0,h1,h2⟩:=hg;symm
  refine decide_eq_false fun hm=>?_
  obtain⟨j,hj,e⟩:=List.getElem_of_mem hm;have:=(at_mem hj).2;rw[List.getElem?_eq_getElem hj,e]at this;exact h2 j (by omega) (Option.some.inj this).symm
theorem Fj (l:List Cp) (k:Sx.Key) (h5:c9 l):ai Try.prog 55 [.sa 0,K7 k] [.ro (.arr none 5 (.qs 5 l))] (nc (.bo (eR l (bc k)))) (fun _ _=>False):=
 aM (inl:=bu) (ann:=(jb [(55,2,FL [0,3] (fun g=> [(5,.it .i64 g)]) (vu l (bc k)) (aJ (aa l)))])) aA (DI l k h5) (by kernel_rfl)
theorem CZ:bW Try.prog 55 Hi:=nB (a8 rL (a8 oz dn)) (fun _=>rfl) fun a hq _=>by
  obtain⟨l,x,_⟩:=a;exact Fj l (rX x) hq
theorem DW (l m:List Cp) (h5:c9 l/\c9 m):
 ((!decide (aJ (aa l)=aJ (aa m)))=true->false=ku l m)/\((!decide (aJ (aa l)=aJ (aa m)))=false->(∃g,qI l m g/\0=g/\l=l/\m=m)/\∀(g:Int),qI l m g->
   (decide (g<aJ (aa l))=true->(0<=g/\g< ↑(aa l))/\g.toNat<aa l/\(0<=g/\g< ↑(aa m))/\g.toNat<aa m/\((!(decide (aK l g.toNat 0=aK m g.toNat 0)&&(decide (aK l g.toNat 1
   =aK m g.toNat 1)&&(decide (aK l g.toNat 2=aK m g.toNat 2)&&(decide (aK l g.toNat 3=aK m g.toNat 3)&&(decide (aK l g.toNat 4=aK m g.toNat 4)&&true))))))=true->false=ku l
   m)/\((!(decide (aK l g.toNat 0=aK m g.toNat 0)&&(decide (aK l g.toNat 1=aK m g.toNat 1)&&(decide (aK l g.toNat 2=aK m g.toNat 2)&&(decide (aK l g.toNat 3=aK m g.toNat 3)&&
   (decide (aK l g.toNat 4=aK m g.toNat 4)&&true))))))=false->aO IntKind.i64 (g+1)/\∃g',qI l m g'/\(aJ (aa l)-g').toNat<(aJ (aa l)-g).toNat/\g+1=g'/\l=l/\m=m))
   /\(decide (g<aJ (aa l))=false->true=ku l m)):=by
 have e1:aJ (aa l)=(l.length:Int):=rfl;have e2:aJ (aa m)=(m.length:Int):=rfl;rw[e1,e2];refine⟨fun h=>?_,fun h=>⟨⟨0,⟨by omega,Int.natCast_nonneg _,?_,fun j hj=>by omega⟩,rfl,rfl,rfl⟩,fun g hg=>⟨fun hlt=>?_,fun hge=>?_⟩⟩⟩
 ·symm
  refine decide_eq_false fun e=>?_
  subst e;simp at h
 ·show l.length=m.length
  simp at h;omega
 ·have hlt:=NU hlt;obtain⟨h0,h1,h2,h3⟩:=hg;have h2:l.length=m.length:=h2;have hb:=h5.1.2;rw[La h5.1.1 h5.2.1 (by omega:g.toNat<l.length) (by omega)]
  refine⟨⟨h0,hlt⟩,by show g.toNat<l.length;omega,⟨h0,by show g<(m.length:Int);omega⟩,by show g.toNat<m.length;omega,fun he=>?_,fun he=>⟨by simp only[aO,bE];omega,g+1,⟨by omega,by show g+1<=(l.length:Int);omega,h2,fun j hj=>?_⟩,by omega,rfl,rfl,rfl⟩⟩
  ·symm
   refine decide_eq_false fun e=>?_
   subst e;simp at he
  ·by_cases hjg:(j:Int)<g
   ·exact h3 j hjg
   ·have:j=g.toNat:=by omega
    subst this;simpa using he
 ·have hge:=NT hge;obtain⟨h0,h1,h2,h3⟩:=hg;have h2:l.length=m.length:=h2;symm
  refine decide_eq_true (List.ext_getElem h2 fun j a b=>?_)
  have:=h3 j (by omega)
  have x:=(at_mem a).2;have y:=(at_mem b).2;rw[List.getElem?_eq_getElem a]at x;rw[List.getElem?_eq_getElem b]at y;rw[Option.some.inj x,Option.some.inj y,this]
theorem Fx:bW Try.prog 14 F3:=nB (a8 rL (a8 rL dn)) (fun _=>rfl) fun a hq _=>by
  obtain⟨l,m,_⟩:=a;exact aM (inl:=bu) (ann:=(jb [(14,4,FL [0,1] (fun g=> [(5,.it .i64 g)]) (qI l m) (aJ (aa l)))])) aA (DW l m hq) (by kernel_rfl)
theorem Br (l:List Cp) (h5:rM l):
 (∃g,vH l g/\0=g/\l=l/\ []=aQ l g)/\∀(g:Int),vH l g->(decide (g<aJ (aa l))=true->(∃g_1,rr l (aQ l g) g g_1/\g=g/\0=g_1/\l=l/\aQ l g=aQ
  l g)/\∀(g_1:Int),rr l (aQ l g) g g_1->(decide (g_1<aJ (aa (aQ l g)))=true->0<=g_1/\g_1< ↑(aa (aQ l g)))/\(decide (g_1<aJ (aa (aQ l g)))=true->g_1.toNat
  <aa (aQ l g))/\(decide (g_1<aJ (aa (aQ l g)))=true->0<=g/\g< ↑(aa l))/\(decide (g_1<aJ (aa (aQ l g)))=true->g.toNat<aa l)/\((decide (g_1<aJ (aa (aQ l
  g)))&&decide (eL (Key.mk (aK (aQ l g) g_1.toNat 0) (aK (aQ l g) g_1.toNat 1) (aK (aQ l g) g_1.toNat 2) (aK (aQ l g) g_1.toNat 3) (aK (aQ l g) g_1.toNat 4) 0) (Key.mk (aK
  l g.toNat 0) (aK l g.toNat 1) (aK l g.toNat 2) (aK l g.toNat 3) (aK l g.toNat 4) 0)<0))=true->aO IntKind.i64 (g_1+1)/\∃g',rr l (aQ l g) g g'/\(8200-g').toNat<(8200-
  g_1).toNat/\g=g/\g_1+1=g'/\l=l/\aQ l g=aQ l g)/\((decide (g_1<aJ (aa (aQ l g)))&&decide (eL (Key.mk (aK (aQ l g) g_1.toNat 0) (aK (aQ l g) g_1.toNat 1)
  (aK (aQ l g) g_1.toNat 2) (aK (aQ l g) g_1.toNat 3) (aK (aQ l g) g_1.toNat 4) 0) (Key.mk (aK l g.toNat 0) (aK l g.toNat 1) (aK l g.toNat 2) (aK l g.toNat 3) (aK l g.toNat 4) 0)<
  0))=false->G6 0 g_1 (aJ (aa (aQ l g)))/\(L3 (Int.toNat 0) g_1.toNat (aa (aQ l g))/\jG (aa (gr (aQ l g) (Int.toNat 0) g_1.toNat)) 40)/\(0<=g/\g< ↑(aa l))/\g.toNat<
  aa l/\ep (aa (gr (aQ l g) (Int.toNat 0) g_1.toNat)) 40/\G6 g_1 (aJ (aa (aQ l g))) (aJ (aa (aQ l g)))/\(L3 g_1.toNat (aJ (aa (aQ l g))).toNat (aa (aQ l g))/\
  Fz (aa (bg (gr (aQ l g) (Int.toNat 0) g_1.toNat) [aK l g.toNat 0,aK l g.toNat 1,aK l g.toNat 2,aK l g.toNat 3,aK l g.toNat 4])) (aa (gr (aQ l g) g_1.toNat (aJ (aa
  (aQ l g))).toNat)) 40)/\aO IntKind.i64 (g+1)/\∃g',vH l g'/\(aJ (aa l)-g').toNat<(aJ (aa l)-g).toNat/\g+1=g'/\l=l/\s9 (bg (gr (aQ l g) (Int.toNat 0)
  g_1.toNat) [aK l g.toNat 0,aK l g.toNat 1,aK l g.toNat 2,aK l g.toNat 3,aK l g.toNat 4]) (gr (aQ l g) g_1.toNat (aJ (aa (aQ l g))).toNat)=aQ l g'))/\(decide (g<aJ (aa
  l))=false->∀(nid:Nat),some (V.sa nid)=some (V.sa nid)/\some [ah.arr (some 43) 5 (TL.qs 5 (aQ l g))]=some [ah.arr (some 43) 5 (TL.qs 5 (gJ l))]):=by
 have e1:aJ (aa l)=(l.length:Int):=rfl;refine⟨⟨0,⟨by omega,Int.natCast_nonneg _,h5⟩,rfl,rfl,rfl⟩,fun g hg=>⟨fun hlt=>?_,fun hge nid=>⟨rfl,?_⟩⟩⟩
 ·have hlt:=NU hlt;obtain⟨h0,h1,_⟩:=hg;have hlt:g<(l.length:Int):=hlt;obtain⟨s1,s2⟩:=BC h5 g;have hnext:=BW h0 hlt;have hnum:=va (l:=l) (j:=g.toNat) h5.2.1 (by omega)
  have hbig:=h5.2.2;simp only[Eg];generalize aQ l g=m at *
  have e2:aJ (aa m)=(m.length:Int):=rfl;have e3:((aa m:Nat):Int)=(m.length:Int):=rfl;have e4:aa m=m.length:=rfl;rw[hnum,e2,e3];refine⟨⟨0,⟨by omega,Int.natCast_nonneg _,fun j hj=>by omega⟩,by trivial,by trivial,by trivial,by trivial⟩,fun i hi=>?_⟩
  obtain⟨i0,i1,i2⟩:=hi;have i1:i<=(m.length:Int):=i1;refine⟨fun h=>⟨i0,NU h⟩,fun h=>by have:=NU h;show i.toNat<m.length;omega,fun _=>⟨h0,hlt⟩,fun _=>by show g.toNat<l.length;omega,fun hc=>?_,fun hc=>?_⟩
  ·simp only[NP,NQ]at hc;refine⟨by simp only[aO,bE];omega,i+1,⟨by omega,by show i+1<=(m.length:Int);omega,fun j hj=>?_⟩,by omega,by trivial,by trivial,by trivial,by trivial⟩
   by_cases hji:(j:Int)<i
   ·exact i2 j hji
   ·have:j=i.toNat:=by omega
    subst this;exact hc.2
  ·have hst:i<(m.length:Int)->eP (cJ m i.toNat) (cJ l g.toNat)=false:=fun h=>by
    have hd:decide (i<(m.length:Int))=true:=decide_eq_true h;rw[hd,Bool.true_and]at hc;exact hc
   have hins:=J0 i0 i1 i2 hst;have l1:aa (gr m (Int.toNat 0) i.toNat)<=8192:=by unfold aa gr;simp;omega
   have l2:aa (gr m i.toNat m.length)<=8192:=by unfold aa gr;simp;omega
   have l3:aa (bg (gr m (Int.toNat 0) i.toNat) (cJ l g.toNat))<=8193:=by
    have:aa (bg (gr m (Int.toNat 0) i.toNat) (cJ l g.toNat))=aa (gr m (Int.toNat 0) i.toNat)+1:=by unfold aa bg;simp
    omega
   refine⟨⟨by omega,i0,i1⟩,⟨⟨by show 0<=_;omega,by show i.toNat<=m.length;omega⟩,?_⟩,⟨h0,hlt⟩,by show g.toNat<l.length;omega,?_,⟨i0,i1,by omega⟩,⟨⟨by rw[Int.toNat_natCast];omega,by rw[Int.toNat_natCast];exact Nat.le_refl _⟩,?_⟩,by simp only[aO,bE];omega,g+1,⟨by omega,by show g+1<=(l.length:Int);omega,h5⟩,by rw[e1];omega,by trivial,by trivial,?_⟩
   ·unfold jG;simp only[maxLen];omega
   ·unfold ep;simp only[maxLen];omega
   ·rw[Int.toNat_natCast];unfold Fz;simp only[maxLen];omega
   ·rw[hnext,Int.toNat_natCast];exact hins
 ·have hge:=NT hge;obtain⟨h0,h1,_⟩:=hg;have h1:g<=(l.length:Int):=h1;have:g.toNat=l.length:=by rw[e1]at hge;omega
  unfold aQ;rw[this,List.take_length]
theorem BR:bW Try.prog 32 Em:=vr (π:=fun _=> [1]) (a8 rL dn) (fun _=>by simp) (fun _ _=>rfl) fun a hq _=>by
  obtain⟨l,_⟩:=a;exact cE (inl:=bu) (ann:=(jb [(32,3,Mo [0] (fun g=> [(4,.it .i64 g)]) 3 vq 5 (fun g=> .qs 5 (aQ l g)) (vH l) (aJ (aa l))),(32,6,M4 [0,3,4])])) (ak xd (ak GQ aA)) cH (Br l hq) (by kernel_rfl)
end Go.Proofs.Ytmfbohanboiklaa
