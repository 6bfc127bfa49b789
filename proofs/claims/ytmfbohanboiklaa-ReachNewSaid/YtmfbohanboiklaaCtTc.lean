import Derived.Test.YtmfbohanboiklaaCtTb
import Derived.Test.YtmfbohanboiklaaSpHc
set_option linter.unusedSimpArgs false
set_option linter.unusedVariables false
namespace Go.Proofs.Ytmfbohanboiklaa
open Go.Sx
set_option maxRecDepth 100000
theorem Hy (L:List Sx.Obj) (k:Key) (i:Int) (hk:bG .i64 k.rights) (hq:vv L k i):
 (0<=k.oid/\k.oid< ↑(aa L))/\(0<=i/\i< ↑16)/\k.oid.toNat<aa L/\(z8 2/\aU IntKind.i64 (k.rights.tdiv 2))/\(z8 2/\aU IntKind.i64 ((k.rights.tdiv 2).tmod 2))/\(decide
  ((k.rights.tdiv 2).tmod 2=1)=true->eF (bp L ((ay L k.oid.toNat free).slots.at i.toNat))=df L k i)/\(decide ((k.rights.tdiv 2).tmod 2=1)=false->bp L ((ay L k.oid.toNat
  free).slots.at i.toNat)=df L k i):=by
 obtain⟨h0,h1,h2,h3⟩:=hq;have e2:z8 2:=by unfold z8;omega
 refine⟨⟨h2,h3⟩,⟨h0,by omega⟩,by omega,⟨e2,vr hk (.inr (.inl rfl))⟩,⟨e2,sk _⟩,fun h=>?_,fun h=>?_⟩
 ·unfold df vy bJ;rw[Oa h]
 ·unfold df vy bJ;rw[N9 (by rw[h];simp)]
theorem HH:bV Try.prog 30 Kp:=
 lT (aI sZ (aI zN (aI jP cM))) (fun _=>rfl) fun a hq hok=>by
  obtain⟨L,k,i,_⟩:=a;exact aL (inl:=bz) (ann:=bW) (an wE (an CA aB)) (Hy L k i hok.2.1.2.2.2.2.1 hq) (by kernel_rfl)
theorem GJ (L:List Sx.Obj) (oid:Int) (hL:dg L):
 ((!decide (aC L oid=0))=true->gB L oid=false/\Value.slice none 0 0=Value.slice none 0 0/\aC L oid=aC L oid)/\((!decide (aC L oid=0))=false->dg L/\gB L oid=
   true/\∀(nid:Nat),some (V.tp [V.sa nid,V.ci IntKind.i64 0])=some (V.tp [V.sa nid,V.ci IntKind.i64 0])/\some [ai.arr (some 43) 5 (TL.qs 5 (ah L oid))]=some [ai.arr (some 43) 5 (TL.qs 5
   (ah L oid))]):=by
 unfold gB;refine⟨fun h=>⟨by simpa using h,rfl,rfl⟩,fun h=>⟨hL,by simpa using h,fun nid=>⟨rfl,rfl⟩⟩⟩
theorem FN (oid:Int):
 ((!decide (aC [] oid=0))=true->gB [] oid=false/\Value.slice none 0 0=Value.slice none 0 0/\aC [] oid=aC [] oid)/\((!decide (aC [] oid=0))=false->False/\gB [] oid
   =true/\∀(nid:Nat),some (V.tp [V.sa nid,V.ci IntKind.i64 0])=some (V.tp [V.sa nid,V.ci IntKind.i64 0])/\some [ai.arr (some 43) 5 (TL.qs 5 (ah [] oid))]=some [ai.arr (some 43) 5 (TL.qs
   5 (ah [] oid))]):=by
 unfold gB;refine⟨fun h=>⟨by simpa using h,rfl,rfl⟩,fun h=>?_⟩
 rw[j8]at h;simp at h
theorem IQ:si Try.prog 13 Ip:=by
 unfold Ip yH
 refine yn (aI (vX tS eS) (aI jP cM)) (fun _=>rfl) (fun _=>by simp) fun a hq _=>by
  obtain⟨o,oid,_⟩:=a;cases o with
  |none=>exact cT (inl:=bz) (ann:=bW) (an pe (an y9 aB)) cP (FN oid) (by kernel_rfl)
  |some L=>exact cT (inl:=bz) (ann:=bW) (an pe (an y9 aB)) cP (GJ L oid hq) (by kernel_rfl)
theorem Eh (k:Sx.Key):
 Key.mk k.kind k.oid k.count k.call k.rights void.value=Key.mk k.kind k.oid k.count k.call k.rights 0:=by
 rfl
theorem rN:bV Try.prog 31 GO:=lT (aI mz cM) (fun _=>rfl) fun a _ _=>aL (inl:=bz) (ann:=bW) aB (Eh (qG a.1)) (by kernel_rfl)
theorem F4 (x y:Sx.Key):
 (decide (x.kind<y.kind)=true-> -1=eQ x y)/\(decide (x.kind<y.kind)=false->(decide (y.kind<x.kind)=true->1=eQ x y)/\(decide (y.kind<x.kind)=false->(decide (x.oid<y.oid)
  =true-> -1=eQ x y)/\(decide (x.oid<y.oid)=false->(decide (y.oid<x.oid)=true->1=eQ x y)/\(decide (y.oid<x.oid)=false->(decide (x.count<y.count)=true-> -1=eQ x y)/\
  (decide (x.count<y.count)=false->(decide (y.count<x.count)=true->1=eQ x y)/\(decide (y.count<x.count)=false->(decide (x.call<y.call)=true-> -1=eQ x y)/\(decide (x.call<
  y.call)=false->(decide (y.call<x.call)=true->1=eQ x y)/\(decide (y.call<x.call)=false->(decide (x.rights<y.rights)=true-> -1=eQ x y)/\(decide (x.rights<y.rights)=false
  ->(decide (y.rights<x.rights)=true->1=eQ x y)/\(decide (y.rights<x.rights)=false->(decide (x.value<y.value)=true-> -1=eQ x y)/\(decide (x.value<y.value)=false->(decide
  (y.value<x.value)=true->1=eQ x y)/\(decide (y.value<x.value)=false->0=eQ x y)))))))))))):=by
 simp only[N4,decide_eq_false_iff_not];repeat' (first|intro _|constructor)
 all_goals(unfold eQ fF;grind)
theorem Hz:bV Try.prog 58 Ks:=lT (aI zN (aI zN cM)) (fun _=>rfl) fun a _ _=>aL (inl:=bz) (ann:=(jM [(58,4,NP 7)])) aB (F4 a.1 a.2.1) (by kernel_rfl)
theorem Dw (l:List Cp) (k:Sx.Key) (h5:cm l):
 (∃g,vd l (bd k) g/\0=g/\l=l/\k.kind=k.kind/\k.oid=k.oid/\k.count=k.count/\k.call=k.call/\k.rights=k.rights)/\∀(g:Int),vd l (bd k) g->(decide (g<aG (aa l))
  =true->(0<=g/\g< ↑(aa l))/\g.toNat<aa l/\((decide (aT l g.toNat 0=k.kind)&&(decide (aT l g.toNat 1=k.oid)&&(decide (aT l g.toNat 2=k.count)&&(decide (aT l g.toNat 3=
  k.call)&&(decide (aT l g.toNat 4=k.rights)&&true)))))=true->true=fb l (bd k))/\((decide (aT l g.toNat 0=k.kind)&&(decide (aT l g.toNat 1=k.oid)&&(decide (aT l g.toNat 2=
  k.count)&&(decide (aT l g.toNat 3=k.call)&&(decide (aT l g.toNat 4=k.rights)&&true)))))=false->aU IntKind.i64 (g+1)/\∃g',vd l (bd k) g'/\(aG (aa l)-g').toNat<(aG
  (aa l)-g).toNat/\g+1=g'/\l=l/\k.kind=k.kind/\k.oid=k.oid/\k.count=k.count/\k.call=k.call/\k.rights=k.rights))/\(decide (g<aG (aa l))=false->false=fb l (bd k)):=by
 have hl:∀g:Int,g<aG (aa l)↔g<(l.length:Int):=fun g=>Iff.rfl
 refine⟨⟨0,⟨by omega,Int.natCast_nonneg _,fun j hj=>by omega⟩,rfl,rfl,rfl,rfl,rfl,rfl,rfl⟩,fun g hg=>⟨fun hlt=>?_,fun hge=>?_⟩⟩
 ·have hlt:=N7 hlt;obtain⟨h0,h1,h2⟩:=hg;have hlt:g<(l.length:Int):=hlt;have hb:=h5.2;rw[JG h5.1 (by omega:g.toNat<l.length)]
  refine⟨⟨h0,hlt⟩,by show g.toNat<l.length;omega,fun he=>?_,fun he=>⟨by simp only[aU,bG];omega,g+1,⟨by omega,by show g+1<=(l.length:Int);omega,fun j hj=>?_⟩,?_,rfl,rfl,rfl,rfl,rfl,rfl,rfl⟩⟩
  ·have he:=N7 he;symm
   exact decide_eq_true (he▸(at_mem (by omega)).1)
  ·by_cases hjg:(j:Int)<g
   ·exact h2 j hjg
   ·have:j=g.toNat:=by omega
    subst this;exact N6 he
  ·have e1:aG (aa l)=(l.length:Int):=rfl;rw[e1];omega
 ·have hge:=N6 hge;have hge:¬g<(l.length:Int):=hge;obtain⟨h0,h1,h2⟩:=hg;symm
  refine decide_eq_false fun hm=>?_
  obtain⟨j,hj,e⟩:=List.getElem_of_mem hm;have:=(at_mem hj).2;rw[List.getElem?_eq_getElem hj,e]at this;exact h2 j (by omega) (Option.some.inj this).symm
theorem Ep (l:List Cp) (k:Sx.Key) (h5:cm l):aj Try.prog 55 [.sa 0,JO k] [.ro (.arr none 5 (.qs 5 l))] (pW (.bo (fb l (bd k)))) (fun _ _=>False):=
 aL (inl:=bz) (ann:=(jM [(55,2,FL [0,3] (fun g=> [(5,.it .i64 g)]) (vd l (bd k)) (aG (aa l)))])) aB (Dw l k h5) (by kernel_rfl)
theorem DF:bV Try.prog 55 GZ:=lT (aI py (aI mz cM)) (fun _=>rfl) fun a hq _=>by
  obtain⟨l,x,_⟩:=a;exact Ep l (qG x) hq
theorem Fo (l m:List Cp) (h5:cm l/\cm m):
 ((!decide (aG (aa l)=aG (aa m)))=true->false=ku l m)/\((!decide (aG (aa l)=aG (aa m)))=false->(∃g,qY l m g/\0=g/\l=l/\m=m)/\∀(g:Int),qY l m g->
   (decide (g<aG (aa l))=true->(0<=g/\g< ↑(aa l))/\g.toNat<aa l/\(0<=g/\g< ↑(aa m))/\g.toNat<aa m/\((!(decide (aT l g.toNat 0=aT m g.toNat 0)&&(decide (aT l g.toNat 1
   =aT m g.toNat 1)&&(decide (aT l g.toNat 2=aT m g.toNat 2)&&(decide (aT l g.toNat 3=aT m g.toNat 3)&&(decide (aT l g.toNat 4=aT m g.toNat 4)&&true))))))=true->false=ku l
   m)/\((!(decide (aT l g.toNat 0=aT m g.toNat 0)&&(decide (aT l g.toNat 1=aT m g.toNat 1)&&(decide (aT l g.toNat 2=aT m g.toNat 2)&&(decide (aT l g.toNat 3=aT m g.toNat 3)&&
   (decide (aT l g.toNat 4=aT m g.toNat 4)&&true))))))=false->aU IntKind.i64 (g+1)/\∃g',qY l m g'/\(aG (aa l)-g').toNat<(aG (aa l)-g).toNat/\g+1=g'/\l=l/\m=m))
   /\(decide (g<aG (aa l))=false->true=ku l m)):=by
 have e1:aG (aa l)=(l.length:Int):=rfl;have e2:aG (aa m)=(m.length:Int):=rfl;rw[e1,e2];refine⟨fun h=>?_,fun h=>⟨⟨0,⟨by omega,Int.natCast_nonneg _,?_,fun j hj=>by omega⟩,rfl,rfl,rfl⟩,fun g hg=>⟨fun hlt=>?_,fun hge=>?_⟩⟩⟩
 ·symm
  refine decide_eq_false fun e=>?_
  subst e;simp at h
 ·show l.length=m.length
  simp at h;omega
 ·have hlt:=N7 hlt;obtain⟨h0,h1,h2,h3⟩:=hg;have h2:l.length=m.length:=h2;have hb:=h5.1.2;rw[K3 h5.1.1 h5.2.1 (by omega:g.toNat<l.length) (by omega)]
  refine⟨⟨h0,hlt⟩,by show g.toNat<l.length;omega,⟨h0,by show g<(m.length:Int);omega⟩,by show g.toNat<m.length;omega,fun he=>?_,fun he=>⟨by simp only[aU,bG];omega,g+1,⟨by omega,by show g+1<=(l.length:Int);omega,h2,fun j hj=>?_⟩,by omega,rfl,rfl,rfl⟩⟩
  ·symm
   refine decide_eq_false fun e=>?_
   subst e;simp at he
  ·by_cases hjg:(j:Int)<g
   ·exact h3 j hjg
   ·have:j=g.toNat:=by omega
    subst this;simpa using he
 ·have hge:=N6 hge;obtain⟨h0,h1,h2,h3⟩:=hg;have h2:l.length=m.length:=h2;symm
  refine decide_eq_true (List.ext_getElem h2 fun j a b=>?_)
  have:=h3 j (by omega)
  have x:=(at_mem a).2;have y:=(at_mem b).2;rw[List.getElem?_eq_getElem a]at x;rw[List.getElem?_eq_getElem b]at y;rw[Option.some.inj x,Option.some.inj y,this]
theorem Es:bV Try.prog 14 H7:=lT (aI py (aI py cM)) (fun _=>rfl) fun a hq _=>by
  obtain⟨l,m,_⟩:=a;exact aL (inl:=bz) (ann:=(jM [(14,4,FL [0,1] (fun g=> [(5,.it .i64 g)]) (qY l m) (aG (aa l)))])) aB (Fo l m hq) (by kernel_rfl)
theorem Ce (l:List Cp) (h5:tw l):
 (∃g,vZ l g/\0=g/\l=l/\ []=aR l g)/\∀(g:Int),vZ l g->(decide (g<aG (aa l))=true->(∃g_1,ry l (aR l g) g g_1/\g=g/\0=g_1/\l=l/\aR l g=aR
  l g)/\∀(g_1:Int),ry l (aR l g) g g_1->(decide (g_1<aG (aa (aR l g)))=true->0<=g_1/\g_1< ↑(aa (aR l g)))/\(decide (g_1<aG (aa (aR l g)))=true->g_1.toNat
  <aa (aR l g))/\(decide (g_1<aG (aa (aR l g)))=true->0<=g/\g< ↑(aa l))/\(decide (g_1<aG (aa (aR l g)))=true->g.toNat<aa l)/\((decide (g_1<aG (aa (aR l
  g)))&&decide (eQ (Key.mk (aT (aR l g) g_1.toNat 0) (aT (aR l g) g_1.toNat 1) (aT (aR l g) g_1.toNat 2) (aT (aR l g) g_1.toNat 3) (aT (aR l g) g_1.toNat 4) 0) (Key.mk (aT
  l g.toNat 0) (aT l g.toNat 1) (aT l g.toNat 2) (aT l g.toNat 3) (aT l g.toNat 4) 0)<0))=true->aU IntKind.i64 (g_1+1)/\∃g',ry l (aR l g) g g'/\(8200-g').toNat<(8200-
  g_1).toNat/\g=g/\g_1+1=g'/\l=l/\aR l g=aR l g)/\((decide (g_1<aG (aa (aR l g)))&&decide (eQ (Key.mk (aT (aR l g) g_1.toNat 0) (aT (aR l g) g_1.toNat 1)
  (aT (aR l g) g_1.toNat 2) (aT (aR l g) g_1.toNat 3) (aT (aR l g) g_1.toNat 4) 0) (Key.mk (aT l g.toNat 0) (aT l g.toNat 1) (aT l g.toNat 2) (aT l g.toNat 3) (aT l g.toNat 4) 0)<
  0))=false->GL 0 g_1 (aG (aa (aR l g)))/\(Mk (Int.toNat 0) g_1.toNat (aa (aR l g))/\jR (aa (gC (aR l g) (Int.toNat 0) g_1.toNat)) 40)/\(0<=g/\g< ↑(aa l))/\g.toNat<
  aa l/\eC (aa (gC (aR l g) (Int.toNat 0) g_1.toNat)) 40/\GL g_1 (aG (aa (aR l g))) (aG (aa (aR l g)))/\(Mk g_1.toNat (aG (aa (aR l g))).toNat (aa (aR l g))/\
  oM (aa (bg (gC (aR l g) (Int.toNat 0) g_1.toNat) [aT l g.toNat 0,aT l g.toNat 1,aT l g.toNat 2,aT l g.toNat 3,aT l g.toNat 4])) (aa (gC (aR l g) g_1.toNat (aG (aa
  (aR l g))).toNat)) 40)/\aU IntKind.i64 (g+1)/\∃g',vZ l g'/\(aG (aa l)-g').toNat<(aG (aa l)-g).toNat/\g+1=g'/\l=l/\dw (bg (gC (aR l g) (Int.toNat 0)
  g_1.toNat) [aT l g.toNat 0,aT l g.toNat 1,aT l g.toNat 2,aT l g.toNat 3,aT l g.toNat 4]) (gC (aR l g) g_1.toNat (aG (aa (aR l g))).toNat)=aR l g'))/\(decide (g<aG (aa
  l))=false->∀(nid:Nat),some (V.sa nid)=some (V.sa nid)/\some [ai.arr (some 43) 5 (TL.qs 5 (aR l g))]=some [ai.arr (some 43) 5 (TL.qs 5 (ia l))]):=by
 have e1:aG (aa l)=(l.length:Int):=rfl;refine⟨⟨0,⟨by omega,Int.natCast_nonneg _,h5⟩,rfl,rfl,rfl⟩,fun g hg=>⟨fun hlt=>?_,fun hge nid=>⟨rfl,?_⟩⟩⟩
 ·have hlt:=N7 hlt;obtain⟨h0,h1,_⟩:=hg;have hlt:g<(l.length:Int):=hlt;obtain⟨s1,s2⟩:=BI h5 g;have hnext:=B3 h0 hlt;have hnum:=vg (l:=l) (j:=g.toNat) h5.2.1 (by omega)
  have hbig:=h5.2.2;simp only[C7];generalize aR l g=m at *
  have e2:aG (aa m)=(m.length:Int):=rfl;have e3:((aa m:Nat):Int)=(m.length:Int):=rfl;have e4:aa m=m.length:=rfl;rw[hnum,e2,e3];refine⟨⟨0,⟨by omega,Int.natCast_nonneg _,fun j hj=>by omega⟩,by trivial,by trivial,by trivial,by trivial⟩,fun i hi=>?_⟩
  obtain⟨i0,i1,i2⟩:=hi;have i1:i<=(m.length:Int):=i1;refine⟨fun h=>⟨i0,N7 h⟩,fun h=>by have:=N7 h;show i.toNat<m.length;omega,fun _=>⟨h0,hlt⟩,fun _=>by show g.toNat<l.length;omega,fun hc=>?_,fun hc=>?_⟩
  ·simp only[N3,N4]at hc;refine⟨by simp only[aU,bG];omega,i+1,⟨by omega,by show i+1<=(m.length:Int);omega,fun j hj=>?_⟩,by omega,by trivial,by trivial,by trivial,by trivial⟩
   by_cases hji:(j:Int)<i
   ·exact i2 j hji
   ·have:j=i.toNat:=by omega
    subst this;exact hc.2
  ·have hst:i<(m.length:Int)->eU (cw m i.toNat) (cw l g.toNat)=false:=fun h=>by
    have hd:decide (i<(m.length:Int))=true:=decide_eq_true h;rw[hd,Bool.true_and]at hc;exact hc
   have hins:=Jv i0 i1 i2 hst;have l1:aa (gC m (Int.toNat 0) i.toNat)<=8192:=by unfold aa gC;simp;omega
   have l2:aa (gC m i.toNat m.length)<=8192:=by unfold aa gC;simp;omega
   have l3:aa (bg (gC m (Int.toNat 0) i.toNat) (cw l g.toNat))<=8193:=by
    have:aa (bg (gC m (Int.toNat 0) i.toNat) (cw l g.toNat))=aa (gC m (Int.toNat 0) i.toNat)+1:=by unfold aa bg;simp
    omega
   refine⟨⟨by omega,i0,i1⟩,⟨⟨by show 0<=_;omega,by show i.toNat<=m.length;omega⟩,?_⟩,⟨h0,hlt⟩,by show g.toNat<l.length;omega,?_,⟨i0,i1,by omega⟩,⟨⟨by rw[Int.toNat_natCast];omega,by rw[Int.toNat_natCast];exact Nat.le_refl _⟩,?_⟩,by simp only[aU,bG];omega,g+1,⟨by omega,by show g+1<=(l.length:Int);omega,h5⟩,by rw[e1];omega,by trivial,by trivial,?_⟩
   ·unfold jR;simp only[maxLen];omega
   ·unfold eC;simp only[maxLen];omega
   ·rw[Int.toNat_natCast];unfold oM;simp only[maxLen];omega
   ·rw[hnext,Int.toNat_natCast];exact hins
 ·have hge:=N6 hge;obtain⟨h0,h1,_⟩:=hg;have h1:g<=(l.length:Int):=h1;have:g.toNat=l.length:=by rw[e1]at hge;omega
  unfold aR;rw[this,List.take_length]
theorem Cs:bV Try.prog 32 EK:=qX (π:=fun _=> [1]) (aI py cM) (fun _=>by simp) (fun _ _=>rfl) fun a hq _=>by
  obtain⟨l,_⟩:=a;exact cT (inl:=bz) (ann:=(jM [(32,3,Mt [0] (fun g=> [(4,.it .i64 g)]) 3 qH 5 (fun g=> .qs 5 (aR l g)) (vZ l) (aG (aa l))),(32,6,MB [0,3,4])])) (an rN (an Hz aB)) cP (Ce l hq) (by kernel_rfl)
end Go.Proofs.Ytmfbohanboiklaa
