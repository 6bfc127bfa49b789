import Derived.Test.YtlblcfaclmpekaaGreatMa17
import Derived.OpenShut
import Derived.Deep.Slices
import Derived.ChangeArms
import Derived.ChangeSame
import Derived.ChangeBook
import Derived.RowKit
import Derived.ProofKit
import Derived.ChangeMaps5
import Derived.SizedLaws
import Derived.Handed
set_option linter.unusedSimpArgs false
set_option linter.unusedVariables false
set_option maxRecDepth 100000
namespace Go.Proofs.YtlblcfaclmpekaaGreat
open Go.Sx
theorem Xp (n:Int) (L:List Sx.Obj):
 true=true/\∀(nid:Nat),some (V.it IntKind.i64 n)=some (V.it IntKind.i64 n)/\some ([]:List aK)=some []:=by
 exact⟨rfl,fun _=>⟨rfl,rfl⟩⟩
theorem OE:cz Tryz.prog 14 aax:=Lm (π:= []) (by simp) (fun _=>rfl) fun n L _=>bc (inl:=(fun f=>f==32)) (ann:=aQ) ar (Xp n L) (by kernel_rfl)
theorem TZ (n:Int):
 Key.mk 1 void.oid void.count void.call void.rights n=bL n:=by
 rfl
theorem UU:cz Tryz.prog 31 XF:=eQ (aA dE bV) (fun _=>rfl) fun a _ _=>bc (inl:=bx) (ann:=aQ) ar (TZ a.1) (by kernel_rfl)
abbrev aci(n:Int):=gW (qO n) 0 7 (abA 10 void void.value)
abbrev acj(n:Int):=lV (bX n ky) 0/\(Int.toNat 0<ai (bX n ky)/\(Int.toNat 0<ai (wJ n)/\lV (qO n) 0/\Int.toNat 0<ai (qO n)/\oX n (aci n) (bX n oh))/\lV (wJ n) 0/\Int.toNat 0<ai (wJ n)/\Int.toNat 0<ai (qO n)/\oX n (aci n) (bX n oh))/\lV (bX n ky) 0/\Int.toNat 0<ai (bX n ky)/\Int.toNat 0<ai (wJ n)/\Int.toNat 0<ai (qO n)/\oX n (aci n) (bX n oh)
abbrev ack(n:Int):=gW (qN n) 1 1 (bL (n-1))
abbrev acm(n:Int):=(Int.toNat 1<ai (ee n hJ)/\lV (qN n) 1/\Int.toNat 1<ai (qN n)/\oX n (ack n) (dc n))/\lV (ee n hJ) 1/\Int.toNat 1<ai (ee n hJ)/\Int.toNat 1<ai (qN n)/\oX n (ack n) (dc n)
abbrev acn(n:Int):=Int.toNat 0<ai (bX n ky)/\lV (wJ n) 0/\Int.toNat 0<ai (wJ n)/\Int.toNat 0<ai (qO n)/\oX n (aci n) (bX n oh)
abbrev aco(n:Int):=lV (ee n hJ) 1/\Int.toNat 1<ai (ee n hJ)/\Int.toNat 1<ai (qN n)/\oX n (ack n) (dc n)
theorem PV (n:Int) (h4:4<=n) (h64:n<=64):
 Hm n n 856/\(lV (k8 n.toNat free) 0/\Int.toNat 0<ai (k8 n.toNat free)/\lV (pG (k8 n.toNat free) 0 1) 0/\Int.toNat 0<ai (pG (k8 n.toNat free) 0 1)/\oX n (AN (pG (k8 n.toNat free) 0 1) 0 1) (bX n hJ))/\∀(g:Unit),gr jk->(lV (bX n hJ) 0/\Int.toNat 0<ai (bX n hJ)/\oX n (gW (bX n hJ) 0 2 (bL 1)) (bX n CL))/\∀(g: Unit),gr jk->(lV (bX n CL) 0/\Int.toNat 0<ai (bX n CL)/\oX n (gW (bX n CL) 0 4 (Key.mk 4 1 1 void.call void.rights void.value)) (bX n ky))/\∀(g:Unit),gr jk->((lV (bX n ky) 0/\(Int.toNat 0<ai (bX n ky)/\(lV (wJ n) 0/\(Int.toNat 0<ai (wJ n)/\lV (qO n) 0/\Int.toNat 0<ai (qO n)/\oX n (aci n) (bX n oh))/\lV (wJ n) 0/\Int.toNat 0<ai (wJ n)/\Int.toNat 0<ai (qO n)/\oX n (aci n) (bX n oh))/\lV (wJ n) 0/\lV (wJ n) 0/\Int.toNat 0<ai (wJ n)/\Int.toNat 0<ai (qO n)/\oX n (aci n) (bX n oh))/\(acj n)/\lV (bX n ky) 0/\(acn n)/\lV (bX n ky) 0/\Int.toNat 0<ai (bX n ky)/\Int.toNat 0<ai (wJ n)/\Int.toNat 0<ai (qO n)/\oX n (aci n) (bX n oh))/\(lV (bX n ky) 0/\(acj n)/\lV (bX n ky) 0/\lV (bX n ky) 0/\Int.toNat 0<ai (bX n ky)/\Int.toNat 0<ai (wJ n)/\Int.toNat 0<ai (qO n)/\oX n (aci n) (bX n oh))/\lV (bX n ky) 0/\(lV (bX n ky) 0/\(acn n)/\lV (bX n ky) 0/\Int.toNat 0<ai (bX n ky)/\Int.toNat 0<ai (wJ n)/\Int.toNat 0<ai (qO n)/\oX n (aci n) (bX n oh))/\lV (bX n ky) 0/\lV (bX n ky) 0/\Int.toNat 0<ai (bX n ky)/\Int.toNat 0<ai (wJ n)/\Int.toNat 0<ai (qO n)/\oX n (aci n) (bX n oh))/\∀(g:Unit),gr jk->(lV (bX n oh) 0/\Int.toNat 0<ai (bX n oh)/\oX n (gW (bX n oh) 0 8 (Key.mk 5 0 1 void.call void.rights void.value)) (oy n))/\∀(g:Unit),gr jk->(lV (oy n) 1/\Int.toNat 1<ai (oy n)/\lV (pG (oy n) 1 1) 1/\Int.toNat 1<ai (pG (oy n) 1 1)/\oX n (AN (pG (oy n) 1 1) 1 1) (ee n hJ))/\∀(g:Unit),gr jk->(aF IntKind.i64 (n-1)/\(((lV (ee n hJ) 1/\(Int.toNat 1<ai (ee n hJ)/\lV (qN n) 1/\Int.toNat 1<ai (qN n)/\oX n (ack n) (dc n))/\lV (ee n hJ) 1/\Int.toNat 1<ai (ee n hJ)/\Int.toNat 1<ai (qN n)/\oX n (ack n) (dc n))/\lV (ee n hJ) 1/\lV (ee n hJ) 1/\Int.toNat 1<ai (ee n hJ)/\Int.toNat 1<ai (qN n)/\oX n (ack n) (dc n))/\(lV (ee n hJ) 1/\(acm n)/\lV (ee n hJ) 1/\Int.toNat 1<ai (ee n hJ)/\Int.toNat 1<ai (qN n)/\oX n (ack n) (dc n))/\lV (ee n hJ) 1/\(aco n)/\lV (ee n hJ) 1/\Int.toNat 1<ai (ee n hJ)/\Int.toNat 1<ai (qN n)/\oX n (ack n) (dc n))/\(lV (ee n hJ) 1/\((acm n)/\lV (ee n hJ) 1/\Int.toNat 1<ai (ee n hJ)/\Int.toNat 1<ai (qN n)/\oX n (ack n) (dc n))/\lV (ee n hJ) 1/\Int.toNat 1<ai (ee n hJ)/\Int.toNat 1<ai (qN n)/\oX n (ack n) (dc n))/\lV (ee n hJ) 1/\((aco n)/\lV (ee n hJ) 1/\Int.toNat 1<ai (ee n hJ)/\Int.toNat 1<ai (qN n)/\oX n (ack n) (dc n))/\lV (ee n hJ) 1/\Int.toNat 1<ai (ee n hJ)/\Int.toNat 1<ai (qN n)/\oX n (ack n) (dc n))/\∀(g:Unit),gr jk->∀(nid:Nat),some (V.ag [V.sa nid,V.ci IntKind.i64 0])=some (V.ag [V.sa nid,V.ci IntKind.i64 0])/\some [aK.arr (some tO) 163 (TL.ob (dc n))]=some [aK.arr (some tO) 163 (TL.ob (dc n))]:=by
 delta abA aco acn acm ack acj aci
 have hK:ai (pG (k8 n.toNat free) 0 1)=n.toNat:=by rw[(uX _ _).2.1];unfold ai k8;simp
 have hP:ai (wJ n)=n.toNat:=by unfold wJ;rw[(uX _ _).1,np]
 have hQ:ai (qO n)=n.toNat:=by unfold qO;rw[(uX _ _).1,hP]
 have hR:ai (qN n)=n.toNat:=by unfold qN;rw[(uX _ _).1,HN]
 have hA:ai (pG (oy n) 1 1)=n.toNat:=by rw[(uX _ _).2.1];exact np _ _
 obtain⟨⟨a0,_⟩,c0,_⟩:=qH h4 (l:=k8 n.toNat free) (by unfold ai k8;simp)
 obtain⟨⟨a1,_⟩,c1,_⟩:=qH h4 hK;obtain⟨⟨a2,_⟩,c2,_⟩:=qH h4 (np n hJ);obtain⟨⟨a3,_⟩,c3,_⟩:=qH h4 (np n CL);obtain⟨⟨a4,_⟩,c4,_⟩:=qH h4 (np n ky);obtain⟨⟨a5,_⟩,c5,_⟩:=qH h4 hP;obtain⟨⟨a6,_⟩,c6,_⟩:=qH h4 hQ;obtain⟨⟨a7,_⟩,c7,_⟩:=qH h4 (np n oh);obtain⟨⟨_,a8⟩,_,c8⟩:=qH h4 (l:=oy n) (np n xj);obtain⟨⟨_,a9⟩,_,c9⟩:=qH h4 hA;obtain⟨⟨_,b2⟩,_,d2⟩:=qH h4 (HN n hJ);obtain⟨⟨_,b3⟩,_,d3⟩:=qH h4 hR
 have hm:Hm n n 856:=⟨rfl,by omega,by omega,by omega⟩
 have e2:oX n (AN (pG (k8 n.toNat free) 0 1) 0 1) (bX n hJ):=zw (by rw[V2 h4];exact(qx h4 _).2.2 _)
 have e3:oX n (gW (bX n hJ) 0 2 (bL 1)) (bX n CL):=zw ((qx h4 _).1 _ _);have e4:oX n (gW (bX n CL) 0 4 (Key.mk 4 1 1 void.call void.rights void.value)) (bX n ky):=zw ((qx h4 _).1 _ _);have e5:oX n (gW (qO n) 0 7 (Key.mk 10 void.oid void.count void.call void.rights void.value)) (bX n oh):=zw (by unfold qO wJ;rw[(qx h4 _).1,(qx h4 _).1,(qx h4 _).1];rfl)
 have e6:oX n (gW (bX n oh) 0 8 (Key.mk 5 0 1 void.call void.rights void.value)) (oy n):=zw ((qx h4 _).1 _ _);have e7:oX n (AN (pG (oy n) 1 1) 1 1) (ee n hJ):=zw (by rw[Zy h4];exact(Dl h4 _).2.2 _)
 have e8:oX n (gW (qN n) 1 1 (bL (n-1))) (dc n):=zw (by unfold qN;rw[(Dl h4 _).1,(Dl h4 _).1,<-TC h4 h64];rfl)
 have hi:aF .i64 (n-1):=by simp only[aF,cc];omega
 simp only[hm,a0,a1,a2,a3,a4,a5,a6,a7,a8,a9,b2,b3,c0,c1,c2,c3,c4,c5,c6,c7,c8,c9,d2,d3,e2,e3,e4,e5,e6,e7,e8,hi,true_and,and_true,and_self,implies_true];try exact fun _ _ _ _ _ _ _ _ _ _ _ _ _ _ _=>trivial
theorem PB:cz Tryz.prog 13 QY:=IQ (π:=fun _=> [1]) (aA dE bV) (fun _=>by simp) (fun _ _=>rfl) fun a hq _=>by
  obtain⟨n,_⟩:=a
  exact bc (inl:=bx) (ann:=(iJ [(13,2000003,En [0,2,3] (fun(_:Unit)=> []) (fun _=> []) (fun _=> [(1,.arr (some tO) 163 (.ob (bX n hJ)))]) (fun _=>gr jk)),(13,2000004,En [0,2,3] (fun(_:Unit)=> []) (fun _=> []) (fun _=> [(1,.arr (some tO) 163 (.ob (bX n CL)))]) (fun _=>gr jk)),(13,2000005,En [0,2,3] (fun(_:Unit)=> []) (fun _=> []) (fun _=> [(1,.arr (some tO) 163 (.ob (bX n ky)))]) (fun _=>gr jk)),(13,2000006,En [0,2,3] (fun(_:Unit)=> []) (fun _=> []) (fun _=> [(1,.arr (some tO) 163 (.ob (bX n oh)))]) (fun _=>gr jk)),(13,2000007,En [0,2,3] (fun(_:Unit)=> []) (fun _=> []) (fun _=> [(1,.arr (some tO) 163 (.ob (oy n)))]) (fun _=>gr jk)),(13,2000008,En [0,2,3] (fun(_:Unit)=> []) (fun _=> []) (fun _=> [(1,.arr (some tO) 163 (.ob (ee n hJ)))]) (fun _=>gr jk)),(13,2000009,En [0,2,3] (fun(_:Unit)=> []) (fun _=> []) (fun _=> [(1,.arr (some tO) 163 (.ob (dc n)))]) (fun _=>gr jk))])) (ae UU ar) (PV n hq.1 hq.2) (by kernel_rfl)
theorem Ww (n:Int) (L:List Sx.Obj) (hq:ai L<=1000/\bu L=false):
 true=true/\true=true/\(ai L).le 1000/\aba (bu L) (∀(nid:Nat),some (V.nl (Value.pointer none))=some (V.lp nid 0)/\none=some [aK.store tS eS L]) (∀(nid: Nat),some (V.lp nid 0)=some (V.lp nid 0)/\some [aK.store tS eS L]=some [aK.store tS eS L]):=by
 delta aba
 exact⟨rfl,rfl,hq.1,fun h=>by rw[hq.2]at h;simp at h,fun _ _=>⟨rfl,rfl⟩⟩
theorem Od:cz Tryz.prog 16 ZT:=Lm (π:= [2]) (by simp) (fun _=>rfl) fun n L hq=>bm (inl:=(fun f=>f==32)) (ann:=aQ) ar (aC xY aE) (Ww n L hq) (by kernel_rfl)
theorem OT (x:List jb) (L:List Sx.Obj) (n:Int) (hq:Es (lX x) L n):
 (∃g,oF (ai x) g/\0=g.fst/\n=g.snd.fst/\L=g.snd.snd/\L=L/\ai x=ai x/\(xF x=xF x)/\n=g.snd.fst/\L=g.snd.snd)/\∀(g:Int×Int×List Sx.Obj),oF (ai x) g->aba (decide (g.fst<bQ (ai x))) ((0<=g.fst/\g.fst< ↑(ai x))/\g.fst.toNat<ai x/\true=true/\(aq g.snd.snd/\aw (aj x g.fst.toNat jk).data/\gN g.snd.fst)/\(0<=g.fst/\g.fst< ↑(ai x))/\g.fst.toNat<ai x/\(aw (aj x g.fst.toNat jk).data/\gN g.snd.fst)/\aba (!Vg x g) (aba (!dnZ (mpD x g)|| !decide (Vh x g=2)) (false=true) (abd (g.fst+1)/\∃g',oF (ai x) g'/\oY (ai x) g'<oY (ai x) g/\g.fst+1=g'.fst/\Kz x g=g'.snd.fst/\CG x g=g'.snd.snd/\L=L/\ai x=ai x/\(xF x=xF x)/\g.snd.fst=g'.snd.fst/\g.snd.snd=g'.snd.snd)) ((0<=g.fst/\g.fst< ↑(ai x))/\g.fst.toNat<ai x/\true=true/\((aq g.snd.snd/\aw (aj x g.fst.toNat jk).data/\gN g.snd.fst)/\Vg x g=true)/\(CG x g=g.snd.snd->((!Vd x g)=true/\(ai (CG x g)).le 1000/\bu (CG x g)=false)/\aba (Vd x g|| !jZ (CG x g) g.snd.snd) (false=true) (abd (g.fst+1)/\∃g',oF (ai x) g'/\oY (ai x) g'<oY (ai x) g/\g.fst+1=g'.fst/\Kz x g=g'.snd.fst/\CG x g=g'.snd.snd/\L=L/\ai x=ai x/\(xF x=xF x)/\Kz x g=g'.snd.fst/\g.snd.snd=g'.snd.snd))/\((!Vd x g)=true/\(ai (CG x g)).le 1000/\bu (CG x g)=false)/\aba (Vd x g|| !jZ (CG x g) (CG x g)) (false=true) (abd (g.fst+1)/\∃g',oF (ai x) g'/\oY (ai x) g'<oY (ai x) g/\g.fst+1=g'.fst/\Kz x g=g'.snd.fst/\CG x g=g'.snd.snd/\L=L/\ai x=ai x/\(xF x=xF x)/\Kz x g=g'.snd.fst/\CG x g=g'.snd.snd))) (true=true):=by
 delta aba abd
 obtain⟨hxs,hxl⟩:=rnX hq;refine⟨⟨(0,n,L),⟨Int.le_refl _,by simp only;omega,hq.2.1,hq.1⟩,rfl,rfl,rfl,rfl,rfl,rfl,rfl,rfl⟩,fun g hg=>⟨fun hlt=>?_,fun _=>rfl⟩⟩
 have hlt:g.fst<(ai x:Int):=aaZ hlt;obtain⟨g0,g1,g2,g3⟩:=id hg;have hi:g.fst.toNat<ai x:=by omega
 have hS:=hxs g.fst.toNat hi;have hw:aF .i64 (g.fst+1):=by simp only[aF,cc];omega
 have st:=QU hg hlt;refine⟨⟨g0,hlt⟩,hi,rfl,⟨g3,hS,g2⟩,⟨g0,hlt⟩,hi,⟨hS,g2⟩,fun hR=>?_,fun hR=>?_⟩
 ·obtain⟨e1,e2,e3,e4⟩:=Zq (x:=x) (g:=g) (by simpa using hR)
  refine⟨fun h=>?_,fun _=>⟨hw,(g.fst+1,g.snd.fst,g.snd.snd),(st _ _ g2 g3).1,(st _ _ g2 g3).2,rfl,e1,e2,rfl,rfl,rfl,rfl,rfl⟩⟩
  rw[e3,e4,aae]at h;simp at h
 ·have hR:Vg x g=true:=by simpa using hR
  obtain⟨e4,hc⟩:=Yy hR;have k1:aq (CG x g):=V6 g3;have k2:gN (Kz x g):=XJ g2;have hb:=HT k1;rw[hc];refine⟨⟨g0,hlt⟩,hi,rfl,⟨⟨g3,hS,g2⟩,hR⟩,fun hE=>⟨⟨rfl,hb⟩,fun h=>?_,fun _=>⟨hw,(g.fst+1,Kz x g,g.snd.snd),(st _ _ k2 g3).1,(st _ _ k2 g3).2,rfl,rfl,hE,rfl,rfl,rfl,rfl,rfl⟩⟩,⟨rfl,hb⟩,fun h=>?_,fun _=>⟨hw,(g.fst+1,Kz x g,CG x g),(st _ _ k2 k1).1,(st _ _ k2 k1).2,rfl,rfl,rfl,rfl,rfl,rfl,rfl,rfl⟩⟩
  ·rw[hE,iZ]at h;simp at h
  ·rw[iZ]at h;simp at h
theorem KZ:lh Tryz.prog 17 Cj:=WE fun x L n hq=>bm (inl:=bx) (ann:=(iJ [(17,2,aaS [0,2,4] 7 4 5 (oF (ai x)) (oY (ai x)))])) (ae Ik (ae JI (ae OE (ae Od ar)))) (aC IV (aC Qc aE)) (OT x L n hq) (by kernel_rfl)
theorem Qz (n:Int) (x:List jb) (hx:wE x):
 Ll (lX x)/\aba (sd (lX x)) (true=true) (abb (abb ((gZ n=false->aba (decide (n<4)||decide (64<n)) (true=true) (II n/\false=true))/\(gZ n=true->aba (decide (n<4)) (aba (decide (n<4)||decide (64<n)) (true=true) (II n/\false=true)) (abb (abb (aF IntKind.i64 (n-1)/\abb (abb (abb (aba (decide (n<4)||decide (64<n)) (false=true) (II n/\(decide ((0:Int)=0)=true/\(ai (dc n)).le 1000/\bu (dc n)=false)/\aba (decide ((0:Int)=0)&&jZ (dc n) (dc n)) (abb ((Es (lX x) (dc n) 0/\dc n=dc n/\(0:Int)=0)/\∀(n':Int) (M':List Sx.Obj),(true&&true)=true)) (false=true)))))))))))):=by
 delta aba abb
 have hf4:(decide (n<4)||decide (64<n))=true↔(n<4\/64<n):=by simp
 have hf5:(decide (n<4)||decide (64<n))=false↔(¬n<4/\¬64<n):=by simp
 have hnw:gZ n=true↔(1<=n/\n<=64):=by unfold gZ;simp
 rw[hf4,hf5];refine⟨⟨x,rfl,hx⟩,fun _=>rfl,fun hfar=>⟨rfl,rfl,fun hn=>⟨fun _=>rfl,fun h=>?_⟩,fun hn=>?_⟩⟩
 ·have:¬(1<=n/\n<=64):=fun hh=>by rw[<-hnw,hn]at hh;simp at hh
  omega
 have hlen40:¬40<(ai x:Int):=X5 hfar;obtain⟨n1,n64⟩:=hnw.1 hn;have hB:=Si hn;refine⟨fun h4=>⟨fun _=>rfl,fun h=>absurd (aaZ h4) h.1⟩,fun h4=>?_⟩
 have h4:=aaY h4;refine⟨rfl,rfl,by simp only[aF,cc];omega,rfl,rfl,rfl,fun h=>?_,fun h=>⟨⟨by omega,n64⟩,⟨rfl,HT hB⟩,fun _=>⟨rfl,⟨⟨hB,by unfold gN;omega,x,rfl,hx,by omega⟩,rfl,rfl⟩,fun _ _=>rfl⟩,fun hs=>?_⟩⟩
 ·omega
 ·rw[iZ]at hs;simp at hs
theorem OI (n:Int) (x:List jb) (hx:wE x):an Tryz.prog 3 [.it .i64 n,.sa 0] [.ro (.arr none 11 (lX x))] (oW (.bo true)) (fun _ _=>False):=
 bm (inl:=(fun f=>f==12||f==29)) (ann:=aQ) (ae KS (ae Yc (ae Ik (ae PB (ae OE (ae Od ar)))))) (aC Mh (aC dB (aC KZ aE))) (Qz n x hx) (by kernel_rfl)
end Go.Proofs.YtlblcfaclmpekaaGreat
namespace Go.Sx
open Go.ChangeShapes Go.WideShapes
def Kd.ofR:Kd->Value->Prop
 | .b,v=>∃x,v= .bool x
 | .s,v=>∃x:ByteArray,v= .string x/\x.size<=maxLen
 | .i k,v=>∃n,v= .int k n/\cc k n
def xG:List Kd->List Value->Prop
 | [],[]=>True
 |k::ks,v::vs=>k.ofR v/\xG ks vs
 |_,_=>False
theorem xG.length:∀{ks:List Kd} {vs:List Value},xG ks vs->vs.length=ks.length
 | [],[],_=>rfl
 |_::_,_::_,h=>by simp[xG.length h.2]
 | [],_::_,h=>h.elim
 |_::_,[],h=>h.elim
theorem xG.split:∀{a b:List Kd} {vs:List Value},xG (a++b) vs->xG a (vs.take a.length)/\xG b (vs.drop a.length)
 | [],b,vs,h=>by simpa[xG]using h
 |k::a,b,[],h=>h.elim
 |k::a,b,v::vs,h=>by
  obtain⟨h1,h2⟩:=xG.split (a:=a) h.2;exact⟨by simpa[xG]using⟨h.1,h1⟩,by simpa using h2⟩
theorem xG.join:∀{a b:List Kd} {vs us:List Value},xG a vs->xG b us->xG (a++b) (vs++us)
 | [],_,[],_,_,h=>by simpa using h
 |k::a,_,v::vs,_,h,h'=>⟨h.1,xG.join h.2 h'⟩
 | [],_,_::_,_,h,_=>h.elim
 |_::_,_,[],_,h,_=>h.elim
theorem L2 {k:IntKind} {n:Int} (h:(Lit.int k n).wf=true):cc k n:=by
 cases k<;>simp[Lit.wf,IntKind.min,IntKind.max,IntKind.signed,IntKind.bits]at h<;>simp only[cc]<;>omega
theorem zg {α:Type} {l:List α} {c n:Nat} (h:(l.take c).length=n):l.take c=l.take n:=by
 rw[List.length_take]at h;rcases Nat.le_total c l.length with hc|hc
 ·rw[Nat.min_eq_left hc]at h;rw[h]
 ·rw[Nat.min_eq_right hc]at h;rw[List.take_of_length_le hc,List.take_of_length_le (by omega)]
section
variable {H:Type} {enc:TypeId×Value->H} {P:Program} {w:World} {base:Nat} {sp:Nat->Bool} {held:Bool}
theorem rf {t n:Nat} (h:pg P t=some n):P.cellsOf t=n:=by
 unfold pg at h;unfold Program.cellsOf;rw[h];rfl
theorem xw {m f:Nat} (ih:∀t ks,fK P f t=some ks->∀cs x,DataW.trod enc P w base sp held m t cs=some x->xG ks cs) (cs:List Value):∀(fs:List Field) (off:Nat) (ks:List Kd),me (fK P f) off fs=some ks->
  (∀g∈fs,∃x,DataW.trod enc P w base sp held m g.type ((cs.drop g.offset).take (P.cellsOf g.type))=some x)->xG ks ((cs.drop off).take ks.length)
 | [],off,ks,h,_=>by
   simp only[me,aaT]at h;subst h;simp[xG]
 |g::fs,off,ks,h,hx=>by
  simp only[me]at h;split at h
  ·rename_i hc;simp only[aaV,bne_iff_ne,ne_eq,aaX]at hc;obtain⟨hn,ho⟩:=hc;cases hg:fK P f g.type with
   |none=>simp[hg]at h
   |some k1=>
    simp only[hg]at h;cases hr:me (fK P f) (off+k1.length) fs with
    |none=>simp[hr]at h
    |some k2=>
     simp only[hr,Option.map_some,aaT]at h;subst h;obtain⟨x,hx1⟩:=hx g (by simp)
     have t1:=ih _ _ hg _ _ hx1;have hl:=t1.length;rw[zg hl,ho]at t1;have t2:=xw ih cs fs (off+k1.length) k2 hr fun g' hg'=>hx g' (by simp[hg'])
     have:(cs.drop off).take (k1++k2).length=(cs.drop off).take k1.length++(cs.drop (off+k1.length)).take k2.length:=by
      rw[List.length_append,List.take_add,List.drop_drop]
     rw[this];exact t1.join t2
  ·simp at h
theorem wq:∀(f:Nat) (t:TypeId) (ks:List Kd),fK P f t=some ks->∀(fuel:Nat) (cs:List Value) (x:DataW H×List MemPlace),DataW.trod enc P w base sp held fuel t cs=some x->xG ks cs
 |0,_,_,h,_,_,_,_=>by simp[fK]at h
 |f+1,t,ks,h,fuel,cs,x,hx=>by
  simp only[fK]at h;split at h
  ·rename_i hu;simp only[aaT]at h;subst h;obtain⟨b,rfl,_⟩:=DataW.trod_bool hu hx;exact⟨⟨b,rfl⟩,trivial⟩
  ·rename_i hu;simp only[aaT]at h;subst h;obtain⟨b,rfl,_,hb⟩:=DataW.trod_string hu hx;exact⟨⟨b,rfl,hb⟩,trivial⟩
  ·rename_i k hu;simp only[aaT]at h;subst h;obtain⟨n,rfl,_,hw⟩:=DataW.trod_int hu hx;exact⟨⟨n,rfl,L2 hw⟩,trivial⟩
  ·rename_i fs hu;split at h
   ·simp at h
   ·split at h
    ·simp at h
    ·rename_i ks' hfs;split at h
     ·rename_i hs;have hs:=aaX.1 hs;simp only[aaT]at h;subst h;obtain⟨xs,n,rfl,_,hl,hxl,hall⟩:=DataW.trod_struct hu hx
      have:=xw (fun t ks h cs x hx=>wq f t ks h n cs x hx) cs fs.toList 0 ks' hfs fun g hg=>by
       obtain⟨i,hi,hgi⟩:=List.getElem_of_mem hg;have hfi:fs[i]? =some g:=by rw[<-Array.getElem?_toList,List.getElem?_eq_getElem hi,hgi]
       have:=hall i g hfi;rw[List.getElem?_eq_getElem (by rw[hxl];simpa using hi)]at this
       exact⟨_,this⟩
      rw[rf hs]at hl;rw[List.drop_zero,<-hl,List.take_length]at this;exact this
     ·simp at h
  ·rename_i n e hu;split at h
   ·simp at h
   ·rename_i k1 he;split at h
    ·rename_i hs;simp only[aaV,aaX]at hs;simp only[aaT]at h;subst h;obtain⟨xs,m,rfl,_,hl,hxl,hall⟩:=DataW.trod_array hu hx;rw[rf hs.2]at hl;rw[rf hs.1]at hall
     have key:∀j,j<=n->xG (List.replicate j k1).flatten (cs.take (j*k1.length)):=by
      intro j;induction j with
      |zero=>intro _;simp[xG]
      |succ j ihj=>
       intro hj;have h1:=ihj (by omega)
       have h2:=hall j (by omega)
       rw[List.getElem?_eq_getElem (by omega)]at h2
       have h3:=wq f e k1 he m _ _ h2;rw[List.replicate_succ',List.flatten_append,Nat.succ_mul,List.take_add];simpa using h1.join h3
     have:=key n (Nat.le_refl _);rwa [<-hl,List.take_length]at this
    ·simp at h
  ·simp at h
end
open Go.RowKit (Below)
section
variable {H:Type} {enc:TypeId×Value->H} {P:Program}
theorem I7 {f:Nat} {vs:List V} {res:List aK} (h:an P f vs res (oW (.bo true)) (fun _ _=>False)) {J:Env} {W:World} (hH:bq J (fun _ _=>False) res (known res) W (fun _=>False) W) (hok:fQ (known res) vs):
  Calls P f (bz J vs).toArray W fun e W'=>e= .returned (.bool true)/\Below W.heap.size W W':=
 (Yp (h J _ W _ W hH hok)).mono fun e W' ⟨x,ρ',fps',res',g1,g2,g3,g4⟩=>by
  rcases g4 with⟨rfl,hK⟩|⟨_,hK⟩
  ·obtain⟨e1,_,_⟩:=dK hK ρ' (known res');refine⟨by rw[e1];rfl,g1.os,g1.tape,g1.output,g1.old,fun b hb=>g1.same b hb (fun h=>h)⟩
  ·exact hK.elim
theorem tt {W W':World} (hB:Below W.heap.size W W') (hl:laidOutB P=true):∀{ts:List TypeId} {vs:List Value} {ds:List (DataW H)} {p:List MemPlace},
  (∀t∈ts,P.readableRec t=true/\t<P.types.size)->DataW.TrodAll enc P W 0 (fun _=>true) true ts vs ds p->(∀q∈p,q.block<W.heap.size)->∀sp:Nat->Bool,(∀q∈p,sp q.block=true)->DataW.TrodAll enc P W' 0 sp true ts vs ds p
 | [],vs,ds,p,_,h,_,sp,_=>by
   obtain⟨rfl,rfl,rfl⟩:=trodAll_nil h;exact trodAll_mk0
 |t::ts,vs,ds,p,hr,h,hlt,sp,hsp=>by
  obtain⟨v,vs',d,ds',p1,q1,rfl,rfl,rfl,⟨n,h1⟩,h2⟩:=trodAll_cons h;obtain⟨r1,r2⟩:=hr t (by simp)
  refine trodAll_cons_mk ⟨n,?_⟩ (tt hB hl (fun t ht=>hr t (by simp[ht])) h2 (fun q hq=>hlt q (List.mem_append_right _ hq)) sp fun q hq=>hsp q (List.mem_append_right _ hq))
  exact DataW.trod_stays (kids_book hl r1) (book_sized r1) (fun h=>by cases h) ⟨r2,book_self t⟩ h1 (fun q hq=>hB.same (hlt q (List.mem_append_left _ hq))) fun q hq=>hsp q (List.mem_append_left _ hq)
theorem Nr {f:Func} {s:ChangeSpec} {apart fresh handsOn again:Bool} {W W':World} {args:Array Value} {ds gs:List (DataW H)} {before:List MemPlace} {tb:TypeId}
  (hW:DataW.Whole enc P f.params.toList s.vars apart W args.toList ds gs before) (hvars:s.vars= []) (hB:Below W.heap.size W W') (hl:laidOutB P=true)
  (hr:∀t∈f.params.toList,P.readableRec t=true/\t<P.types.size) (hrt:f.resultTypes= #[tb]) (htb:P.underlying tb=some .bool)
  (hs:(s.fn H (ds++gs)).results= [.lit (.bool true)]/\(s.fn H (ds++gs)).args=ds/\(s.fn H (ds++gs)).vars= []):s.post enc P f apart fresh handsOn again W args (.bool true) W':=by
 have hW':=hW;have hlt:=hW.lt;obtain⟨pa,pv,hA,hV,hps,hz,hn⟩:=hW;rw[hvars]at hV;obtain⟨rfl,rfl⟩:=trodVars_none hV;rw[List.append_nil]at hps;subst hps;have hag:∀sp:Nat->Bool,(∀q∈before,sp q.block=true)->DataW.TrodAll enc P W' 0 sp true f.params.toList args.toList ds before:=fun sp hsp=>tt hB hl hr hA hlt sp hsp
 have hres:∀(b:Nat) (sp:Nat->Bool) (hd:Bool),DataW.TrodAll enc P W' b sp hd f.resultTypes.toList ((Value.bool true).resultList f.resultTypes.size) [.lit (.bool true)] []:=fun b sp hd=>by
  rw[hrt];exact trodAll_mk1 (RowKit.shut_bool htb true)
 have hok:∀(j:Nat) (t:TypeId) (r:Value),f.resultTypes[j]? =some t->((Value.bool true).resultList f.resultTypes.size)[j]? =some r->Value.okWide P W' .any 0 t r:=RowKit.ok_one hrt rfl (RowKit.okWide_bool_mk htb true);refine⟨ds,[],before,[],before,[],hW',by rw[hs.1];exact hres _ _ _,?_,?_,hB.frame _,fun _=>⟨hok,?_⟩⟩
 ·rw[hs.2.1];exact hag _ fun q hq=>by simpa using hlt q hq
 ·rw[hvars,hs.2.2];rfl
 ·refine⟨[.lit (.bool true)]++ds,[],before,⟨[]++before,[],trodAll_append (hag _ fun _ _=>rfl) (hres _ _ _),by rw[hvars];rfl,by simp,fun b off hp=>?_,hn⟩,fun p hp _=>hp⟩
  have:=hz b off hp;rw[hB.frozen (p:=⟨b,off,none⟩) (hlt _ hp)];exact this
def yI (w:World) (v:Value) (esz:Nat) (l:TL):Prop:=
 (∀j,j<l.len->ok (fun _=>False) (l.get j)/\cS (l.get j)=false/\fi (l.get j)=esz)/\l.len<=9223372036854775807/\
 ∃(sa:Option Addr) (cap:Nat),v= .slice sa l.len cap/\(0<l.len->∃a,sa=some a/\a.spot=none/\a.block<w.heap.size/\∀j,j<l.len->∀k,k<esz->w.cell? ⟨a.block,a.off+(j*esz+k),none⟩=(cells Env.zero (l.get j))[k]?)
def Zt:Value->Option Addr
 | .slice a _ _=>a
 |_=>none
def slN:Value->Nat
 | .slice _ n _=>n
 |_=>0
def slC:Value->Nat
 | .slice _ _ c=>c
 |_=>0
def tR (A:List (Value×Nat×TL)):Env:=
 {num:=fun _=>0,cap:=fun i=>slC (A.getD i (.slice none 0 0,0,.bo [])).1,adr:=fun i=>(Zt (A.getD i (.slice none 0 0,0,.bo [])).1).getD ⟨0,0,none⟩,sa:=fun i=>Zt (A.getD i (.slice none 0 0,0,.bo [])).1,
  sn:=fun i=>slN (A.getD i (.slice none 0 0,0,.bo [])).1,ob:=fun _ _=>0}
def mT:List (Value×Nat×TL)->List aK
 | []=> []
 |a::l=> .arr none a.2.1 a.2.2::mT l
theorem p9:∀(A:List (Value×Nat×TL)) (i:Nat),az (mT A) i=match A[i]? with|some a=> .arr none a.2.1 a.2.2|none=> .yet
 | [],i=>by simp[mT,az]
 |a::l,0=>by simp[mT,az]
 |a::l,i+1=>by simp[mT,az,p9 l i]
theorem oT:∀A:List (Value×Nat×TL),(mT A).length=A.length
 | []=>rfl
 |a::l=>by simp[mT,oT l]
theorem L3 {A:List (Value×Nat×TL)} {W:World} (h:∀a∈A,yI W a.1 a.2.1 a.2.2):bq (tR A) (fun _ _=>False) (mT A) (known (mT A)) W (fun _=>False) W:=by
 refine⟨fun i hi=>hi,Nat.le_refl _,rfl,rfl,rfl,fun i hi=>?_,fun i b _ h=>h.elim,fun i j b _ _ _ h=>h.elim,fun i b _ h=>h.elim,fun _ _ _=>rfl⟩
 have hlt:=aO hi;rw[oT]at hlt;have hA:A[i]? =some A[i]:=List.getElem?_eq_getElem hlt;have hh:=h A[i] (List.getElem_mem hlt);generalize A[i]=a at hA hh
 rw[p9,hA];simp only;obtain⟨h1,h2,sa,cap,h3,h4⟩:=hh;have hd:A.getD i (.slice none 0 0,0,.bo [])=a:=by rw[aa0,hA];rfl
 have e1:(tR A).sa i=sa:=by show Zt (A.getD i _).1=sa;rw[hd,h3];rfl
 have e2:(tR A).sn i=a.2.2.len:=by show slN (A.getD i _).1=_;rw[hd,h3];rfl
 have e3:(tR A).adr i=sa.getD ⟨0,0,none⟩:=by show(Zt (A.getD i _).1).getD _=_;rw[hd,h3];rfl
 refine⟨h1,e2,h2,fun x hx=>?_,fun hl=>?_,fun hl=>?_,.inl ⟨rfl,fun hl=>?_,fun j hj k hk=>?_⟩⟩
 ·rw[e1]at hx;rw[e3,hx];rfl
 ·obtain⟨x,rfl,_⟩:=h4 hl;rw[e1];rfl
 ·obtain⟨x,rfl,g,_⟩:=h4 hl;rw[e3];exact g
 ·obtain⟨x,rfl,_,g,_⟩:=h4 hl;exact⟨fun h=>h,by rw[e3];exact g⟩
 ·obtain⟨x,rfl,_,_,g⟩:=h4 (by omega)
  have:=g j hj k hk;rw[e3];simp only[Option.getD_some];rw[this,dX (N:=fun _=>False) (J:=Env.zero) (ρ':=tR A) (fun _ h=>h.elim) _ (h1 j hj).1]
theorem TJ {A:List (Value×Nat×TL)} {W:World} (h:∀a∈A,yI W a.1 a.2.1 a.2.2) {i:Nat} {a:Value×Nat×TL} (hi:A[i]? =some a):den (tR A) (.sa i)=a.1/\known (mT A) i:=by
 obtain⟨h1,h2,sa,cap,h3,h4⟩:=h a (List.mem_of_getElem? hi);have hd:A.getD i (.slice none 0 0,0,.bo [])=a:=by rw[aa0,hi];rfl
 refine⟨?_,by unfold known;rw[p9,hi];simp⟩
 show Value.slice (Zt (A.getD i _).1) (slN (A.getD i _).1) (slC (A.getD i _).1)=a.1
 rw[hd,h3];rfl
theorem w9 {α:Type} {p:Nat->α->Prop}:∀n:Nat,(∀i,i<n->∃y,p i y)->∃l:List α,l.length=n/\∀(i:Nat) (y:α),l[i]? =some y->p i y
 |0,_=>⟨[],rfl,by simp⟩
 |n+1,h=>by
  obtain⟨l,h1,h2⟩:=w9 n fun i hi=>h i (by omega)
  obtain⟨y,hy⟩:=h n (by omega)
  refine⟨l++ [y],by simp[h1],fun i z hz=>?_⟩
  by_cases hi:i<n
  ·rw[List.getElem?_append_left (by omega)]at hz
   exact h2 i z hz
  ·rw[List.getElem?_append_right (by omega)]at hz
   have:i-l.length=0:=by
    have:=(List.getElem?_eq_some_iff.1 hz).1;simp at this;omega
   rw[this]at hz;simp at hz;subst hz;rw[show i=n by omega];exact hy
theorem Ge {α:Type} {W:World} {t e esz:TypeId} {v:Value} {d:DataW H} {ps:List MemPlace} (ht:P.underlying t=some (.slice e)) (hc:P.cellsOf e=esz) (hz:0<esz)
  (hval:∃a0 ln cp,v= .slice a0 ln cp) (hd:DataW.Trod enc P W 0 (fun _=>true) true t v d ps) (mk:α->V) (wf:α->Prop) (tl:List α->TL) (d0:α) (htl:∀l:List α,(tl l).len=l.length/\∀i,(tl l).get i=mk (aj l i d0))
  (hmk:∀y,wf y->ok (fun _=>False) (mk y)/\cS (mk y)=false/\fi (mk y)=esz) (hop:∀n cs x,DataW.trod enc P W 0 (fun _=>true) true n e cs=some x->∃y,wf y/\cs=cells Env.zero (mk y)):
  ∃l:List α,(∀y∈l,wf y)/\yI W v esz (tl l):=by
 obtain⟨a0,ln,cp,rfl⟩:=hval;obtain⟨fuel,hf⟩:=hd;rcases Go.Deep.open_slice ht hf with⟨hcs,_⟩|⟨a,len,cap,m,n,D,Pl,hcs,_,hlc,hcm,hm,_,hx⟩
 ·simp[Value.cells]at hcs;obtain⟨rfl,rfl,rfl⟩:=hcs;obtain⟨e1,e2⟩:=htl [];have e1:(tl []).len=0:=e1;exact⟨[],by simp,fun j hj=>by omega,by omega,none,0,by rw[e1],fun h=>by omega⟩
 ·simp[Value.cells]at hcs;obtain⟨rfl,rfl,rfl⟩:=hcs;simp only[if_true]at hm;subst hm
  have hx':∀i,i<ln->∃y,wf y/\∀k,k<esz->W.cell? ((a.add (i*esz)).add k)=(cells Env.zero (mk y))[k]? :=fun i hi=>by
   obtain⟨cs,g1,g2⟩:=hx i (by omega)
   rw[hc]at g1;obtain⟨y,y1,y2⟩:=hop n cs _ g2;obtain⟨_,_,g3⟩:=World.cells?_some g1;exact⟨y,y1,fun k hk=>by rw[g3 k hk,y2]⟩
  obtain⟨l,l1,l2⟩:=w9 ln hx';obtain⟨e1,e2⟩:=htl l
  have hget:∀j,j<ln->l[j]? =some (aj l j d0):=fun j hj=>by
   unfold aj;rw[aa0,List.getElem?_eq_getElem (by omega)];rfl
  have hcell0:∀j,j<ln->∀k,k<esz->W.cell? ((a.add (j*esz)).add k)=(cells Env.zero ((tl l).get j))[k]? :=fun j hj k hk=>by
   rw[e2];exact(l2 j _ (hget j hj)).2 k hk
  refine⟨l,fun y hy=>?_,fun j hj=>?_,?_,some a,m,by rw[e1,l1],fun hl=>?_⟩
  ·obtain⟨i,hi,rfl⟩:=List.getElem_of_mem hy;exact(l2 i _ (List.getElem?_eq_getElem hi)).1
  ·rw[e2];exact hmk _ (l2 j _ (hget j (by rw[e1,l1]at hj;exact hj))).1
  ·have:m<=9223372036854775807:=by simpa[maxLen]using hcm
   omega
  ·have hln:0<ln:=by rw[e1,l1]at hl;exact hl
   have h0:=hcell0 0 hln 0 hz
   have hsome:∃u,(cells Env.zero ((tl l).get 0))[0]? =some u:=by
    have hk:=hmk _ (l2 0 _ (hget 0 hln)).1;rw[<-e2]at hk;have:=bg Env.zero _ hk.1;exact⟨_,List.getElem?_eq_getElem (by rw[this,hk.2.2];exact hz)⟩
   obtain⟨u,hu⟩:=hsome;rw[hu]at h0;simp only[Nat.zero_mul,Addr.add,if_true]at h0
   have hspot:a.spot=none:=by
    unfold World.cell? at h0;split at h0
    ·split at h0
     ·simp at h0
     ·rename_i hs;simpa using hs
    ·simp at h0
   refine⟨a,rfl,hspot,World.block_lt_of_cell? W a h0,fun j hj k hk=>?_⟩
   have:=hcell0 j (by rw[e1,l1]at hj;exact hj) k hk
   rw[<-this];congr 1
   obtain⟨b,o,s⟩:=a;simp only at hspot;subst hspot;rw[add_lit,add_lit];show(⟨b,o+(j*esz+k),none⟩:Addr)=⟨b,o+j*esz+k,none⟩
   rw[Nat.add_assoc]
theorem JG {α:Type} {W:World} {t e esz:TypeId} {base:Nat} {v:Value} {d:DataW H} {ps:List MemPlace} (ht:P.underlying t=some (.slice e)) (hc:P.cellsOf e=esz) (hz:0<esz)
  (hval:Value.okWide P W .any base t v) (hd:DataW.Trod enc P W 0 (fun _=>true) true t v d ps) (mk:α->V) (wf:α->Prop) (tl:List α->TL) (d0:α) (htl:∀l:List α,(tl l).len=l.length/\∀i,(tl l).get i=mk (aj l i d0))
  (hmk:∀y,wf y->ok (fun _=>False) (mk y)/\cS (mk y)=false/\fi (mk y)=esz) (hop:∀n cs x,DataW.trod enc P W 0 (fun _=>true) true n e cs=some x->∃y,wf y/\cs=cells Env.zero (mk y)):
  ∃l:List α,(∀y∈l,wf y)/\yI W v esz (tl l):=
 Ge ht hc hz (okWide_slice ht hval) hd mk wf tl d0 htl hmk hop
end
end Go.Sx
namespace Go.Proofs.YtlblcfaclmpekaaGreat
open Go.Sx Go.ChangeShapes Go.WideShapes
theorem aaA:ownKnob Tryz.prog.godebug=none:=by kernel_rfl
theorem aav:laidOutB Tryz.prog=true:=by kernel_rfl
section
variable {H:Type} {enc:TypeId×Value->H} {W:World} {base:Nat} {v:Value} {d:DataW H} {ps:List MemPlace}
end
def Ss {α:Type} (ks:List Kd) (W:α->Prop) (m:α->V):Prop:=
 (∀cs,xG ks cs->∃x,W x/\cs=cells Env.zero (m x))/\∀x,W x->ok (fun _=>False) (m x)/\cS (m x)=false/\fi (m x)=ks.length
def So {α:Type} (ks:List Kd) (W:α->Prop) (m:α->List V):Prop:=
 (∀cs,xG ks cs->∃x,W x/\cs=bn Env.zero (m x))/\∀x,W x->fQ (fun _=>False) (m x)/\tv (m x)/\Hb (m x)=ks.length
theorem Ez:So [] (fun _:Unit=>True) (fun _=> []):=by
 refine⟨fun cs h=>?_,fun _ _=>⟨trivial,trivial,rfl⟩⟩
 cases cs with
 |nil=>exact⟨(),trivial,rfl⟩
 |cons a l=>exact h.elim
theorem iq {α β:Type} {ks1 ks2:List Kd} {W1:α->Prop} {W2:β->Prop} {m1:α->V} {m2:β->List V} (h1:Ss ks1 W1 m1) (h2:So ks2 W2 m2):So (ks1++ks2) (fun x:α×β=>W1 x.1/\W2 x.2) (fun x=>m1 x.1::m2 x.2):=by
 refine⟨fun cs h=>?_,fun x hx=>?_⟩
 ·obtain⟨g1,g2⟩:=xG.split h;obtain⟨a,a1,a2⟩:=h1.1 _ g1;obtain⟨b,b1,b2⟩:=h2.1 _ g2;refine⟨(a,b),⟨a1,b1⟩,?_⟩;have e:bn Env.zero (m1 a::m2 b)=cells Env.zero (m1 a)++bn Env.zero (m2 b):=rfl;show cs=bn Env.zero (m1 a::m2 b)
  rw[e,<-a2,<-b2,List.take_append_drop]
 ·obtain⟨a1,a2,a3⟩:=h1.2 x.1 hx.1;obtain⟨b1,b2,b3⟩:=h2.2 x.2 hx.2;refine⟨⟨a1,b1⟩,⟨?_,b2⟩,?_⟩
  ·cases hm:m1 x.1<;>rw[hm]at a2<;>first|trivial|simp[cS]at a2
  ·show fi (m1 x.1)+Hb (m2 x.2)=_
   rw[a3,b3,List.length_append]
theorem MW {α:Type} {ks:List Kd} {W:α->Prop} {m:α->List V} (h:So ks W m):Ss ks W (fun x=> .ag (m x)):=
 ⟨fun cs hc=>by
  obtain⟨x,h1,h2⟩:=h.1 cs hc;exact⟨x,h1,by rw[h2];simp[cells,den,Value.cells]⟩,fun x hx=>⟨⟨(h.2 x hx).1,(h.2 x hx).2.1⟩,rfl,(h.2 x hx).2.2⟩⟩
theorem RY {α β:Type} {ks:List Kd} {W:α->Prop} {m:α->V} {m':β->V} (h:Ss ks W m) (f:α->β) (g:β->α) (hm:∀y,m' y=m (g y)) (hfg:∀x,g (f x)=x):Ss ks (fun y=>W (g y)) m':=by
 refine⟨fun cs hc=>?_,fun y hy=>?_⟩
 ·obtain⟨x,h1,h2⟩:=h.1 cs hc;exact⟨f x,by show W (g (f x));rw[hfg];exact h1,by rw[hm,hfg];exact h2⟩
 ·rw[hm];exact h.2 _ hy
theorem vj (k:IntKind):Ss [.i k] (cc k) (V.it k):=by
 refine⟨fun cs h=>?_,fun x hx=>⟨hx,rfl,rfl⟩⟩
 match cs,h with
 | [],h=>exact h.elim
 | [a],h=>obtain⟨⟨n,rfl,hn⟩,_⟩:=h;exact⟨n,hn,rfl⟩
 |_::_::_,h=>exact h.2.elim
theorem Zs:Ss [.b] (fun _=>True) V.bo:=by
 refine⟨fun cs h=>?_,fun x hx=>⟨trivial,rfl,rfl⟩⟩
 match cs,h with
 | [],h=>exact h.elim
 | [a],h=>obtain⟨⟨n,rfl⟩,_⟩:=h;exact⟨n,trivial,rfl⟩
 |_::_::_,h=>exact h.2.elim
theorem Y8:Ss [.s] (fun s:ByteArray=>(s.size:Int)<=9223372036854775807) V.st:=by
 refine⟨fun cs h=>?_,fun x hx=>⟨trivial,rfl,rfl⟩⟩
 match cs,h with
 | [],h=>exact h.elim
 | [a],h=>
   obtain⟨⟨n,rfl,hn⟩,_⟩:=h;refine⟨n,?_,rfl⟩;simp only[maxLen]at hn;omega
 |_::_::_,h=>exact h.2.elim
section
variable {H:Type} {enc:TypeId×Value->H} {W:World} {base:Nat} {v:Value} {d:DataW H} {ps:List MemPlace}
theorem JJ {α:Type} {t e:TypeId} {ks:List Kd} {wf:α->Prop} {m:α->V} (tl:List α->TL) (d0:α) (ht:Tryz.prog.underlying t=some (.slice e)) (hf:fK Tryz.prog 8 e=some ks) (hc:Tryz.prog.cellsOf e=ks.length) (hz:0<ks.length) (ho:Ss ks wf m)
  (htl:∀l:List α,(tl l).len=l.length/\∀i,(tl l).get i=m (aj l i d0)) (hval:Value.okWide Tryz.prog W .any base t v) (hd:DataW.Trod enc Tryz.prog W 0 (fun _=>true) true t v d ps):
  ∃l:List α,(∀o∈l,wf o)/\yI W v ks.length (tl l):=
 JG (esz:=ks.length) ht hc hz hval hd m wf tl d0 htl (fun y hy=>ho.2 y hy) fun n cs x hx=>ho.1 _ (wq 8 _ _ hf n cs x hx)
theorem Rc {t:TypeId} {k:IntKind} (ht:Tryz.prog.underlying t=some (.int k)) (hval:Value.okWide Tryz.prog W .any base t v) (hd:DataW.Trod enc Tryz.prog W 0 (fun _=>true) true t v d ps):∃n:Int,cc k n/\v= .int k n:=by
 obtain⟨n,h1,_,_,h2⟩:=open_int ht hval hd;exact⟨n,L2 h2,h1⟩
end
theorem RE {α:Type} {l:List α} {p:α->Prop} (h:∀o∈l,p o) (d:α) (i:Nat) (hi:i<ai l):p (aj l i d):=by
 have hi:i<l.length:=hi;unfold aj;rw[aa0,List.getElem?_eq_getElem hi];exact h _ (List.getElem_mem hi)
theorem Rv {J:Env} {res:List aK} {W:World} (h:bq J (fun _ _=>False) res (known res) W (fun _=>False) W) (hk:∀i,i<res.length->known res i):bq J (fun _ _=>False) (nJ res) (known (nJ res)) W (fun _=>False) W:=by
 have hg:∀i,az (nJ res) i=if i<res.length then .ro (az res i)else .yet:=fun i=>by
  rw[nk,nk];unfold nJ;by_cases hi:i<res.length
  ·simp[aa0,hi]
  ·simp[aa0,hi]
 have hkn:∀i,known (nJ res) i↔i<res.length:=fun i=>by
  unfold known;rw[hg];split<;>simp_all
 refine⟨fun i hi=>hi,Nat.le_refl _,rfl,rfl,rfl,fun i hi=>?_,fun i b _ h=>h.elim,fun i j b _ _ _ h=>h.elim,fun i b _ h=>h.elim,fun _ _ _=>rfl⟩
 have hlt:=(hkn i).1 hi;rw[hg,aa2 hlt];exact⟨fun _=>False,aK.oG _ (h.holds i (hk i hlt)) fun j hj=>(hkn j).2 (aO hj),fun b hb=>hb.elim⟩
theorem Jc {A:List (Value×Nat×TL)}:∀i,i<(mT A).length->known (mT A) i:=fun i hi=>by
 rw[oT]at hi;unfold known;rw[p9,List.getElem?_eq_getElem hi];simp
theorem La {l:List aK} {i:Nat} {r:aK} (h:az l i= .ro r):known l i:=by
 unfold known;rw[h];simp
def kI:List Kd:= [.i .i64]
def aaN:List Kd:=kI++(kI++(kI++ []))
def kOp:List Kd:=kI++(kI++(kI++(kI++(kI++([.s]++(aaN++([.b]++(kI++ []))))))))
def aaH (x:jb):Prop:=cc .i64 x.kind/\cc .i64 x.proc/\cc .i64 x.reg/\cc .i64 x.mode/\cc .i64 x.code/\aw x.data/\(cc .i64 x.s0/\cc .i64 x.s1/\cc .i64 x.s2/\True)/\True/\cc .i64 x.val/\True
theorem YU:Ss kOp aaH Ky:=
 RY (MW (iq (vj .i64) (iq (vj .i64) (iq (vj .i64) (iq (vj .i64) (iq (vj .i64) (iq Y8 (iq (MW (iq (vj .i64) (iq (vj .i64) (iq (vj .i64) Ez)))) (iq Zs (iq (vj .i64) Ez))))))))))
  (fun x=>(⟨x.1,x.2.1,x.2.2.1,x.2.2.2.1,x.2.2.2.2.1,x.2.2.2.2.2.1,x.2.2.2.2.2.2.1.1,x.2.2.2.2.2.2.1.2.1,x.2.2.2.2.2.2.1.2.2.1,x.2.2.2.2.2.2.2.1,x.2.2.2.2.2.2.2.2.1⟩:jb))
  (fun y:jb=>(y.kind,y.proc,y.reg,y.mode,y.code,y.data,(y.s0,y.s1,y.s2,()),y.num,y.val,())) (fun _=>rfl) (fun _=>rfl)
end Go.Proofs.YtlblcfaclmpekaaGreat
