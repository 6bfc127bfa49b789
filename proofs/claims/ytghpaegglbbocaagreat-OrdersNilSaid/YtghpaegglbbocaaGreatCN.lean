import Derived.Test.YtghpaegglbbocaaGreatKS
import Derived.Test.YtghpaegglbbocaaGreatCV
namespace Go.Proofs.YtghpaegglbbocaaGreat
open Go.Sx
set_option maxRecDepth 100000
theorem JB (k:Key):
 ((bC []|| !decide (bD k=0))=true->void=ae [] k)/\
   ((bC []|| !decide (bD k=0))=false->
     ((bf k&& !aU [] k)=true->void=ae [] k)/\((bf k&& !aU [] k)=false->k=ae [] k)):=by
 exact Dx [] k
theorem Ig (L:List Sx.Obj) (k:Key):
 ((bC L|| !decide (bD k=0))=true->void=ae L k)/\
   ((bC L|| !decide (bD k=0))=false->
     ((bf k&& !aU L k)=true->void=ae L k)/\((bf k&& !aU L k)=false->k=ae L k)):=by
 exact Dx L k
theorem ld:ck Tryz.prog 22 SB:=
 wg fz (fun _ _=>rfl) (fun x _=>aV (inl:=bp) (ann:=aP) (ab oV (ab jf (ab eY (ab bL ak)))) (JB x) (by kernel_rfl)) (fun L x _ _ _=>aV (inl:=bp) (ann:=aP) (ab oV (ab jf (ab eY (ab bL ak)))) (Ig L x) (by kernel_rfl)) fun _=>rfl
theorem MC (l:List Sx.Obj) (k:Key):
 ((decide (b9 (ai l)=0)|| !decide (bD k=0)||decide (0<=aX k)&& !aU l k)=true->
   void=ae l k)/\
   ((decide (b9 (ai l)=0)|| !decide (bD k=0)||decide (0<=aX k)&& !aU l k)=false->
     k=ae l k):=by
 exact HC l k
theorem qo:ck Tryz.prog 45 OI:=Ff fz (fun _ _=>rfl) (fun l k _ _ _=>aV (inl:=bp) (ann:=aP) (ab rk (ab me (ab mC ak))) (MC l k) (by kernel_rfl)) fun _=>rfl
end Go.Proofs.YtghpaegglbbocaaGreat
namespace Go.Sx
def Xg (nid:Nat):V:= .mp nid
def W3 (nid:Nat):List aI:= [.mp .i64 [2,3,1,8] [.fn 201 [.lp (nid+1) 0],.fn 201 [.lp (nid+1+1) 0],.fn 199 [],.fn 199 []],
 .blk 23 (.ci .i64 3),.blk 23 (.ci .i64 1)]
def tN:Nat:=166
def X5 (L:List Obj) (t f:Key) (g:Int):aI:= .blk tN (.ag [.ob (ep (aa L t) (cX L t f g)),.lp 0 0,.key t])
end Go.Sx
namespace Go.Proofs.YtghpaegglbbocaaGreat
open Go.Sx
set_option maxRecDepth 100000
theorem PC:
 true=true/\
 true=true/\
  ∀(nid:Nat),some (Xg nid)=some (Xg nid)/\some (W3 nid)=some (W3 nid):=by
 exact⟨rfl,rfl,fun nid=>⟨rfl,rfl⟩⟩
theorem Rc:ck Tryz.prog 193 (C0 Xg W3):=yf (π:= [0,1,2]) (by decide) (fun _=>rfl) (bn (inl:=(fun f=>f==200)) (ann:=aP) ak aC PC (by kernel_rfl))
theorem Lh (r m:Int) (hr:bY .i64 r) (hm0:bY .i64 m):
 (∃g,jS g/\r=r/\m=m/\0=fQ r m g/\1=g)/\
  ∀(g:Int),
   jS g->
    (decide (g<=4)=true->
      (nm g/\aG IntKind.i64 (r.tdiv g))/\
       (nm 2/\aG IntKind.i64 ((r.tdiv g).tmod 2))/\
        ((!decide ((r.tdiv g).tmod 2=1))=true->nm g/\aG IntKind.i64 (m.tdiv g))/\
          ((!decide ((r.tdiv g).tmod 2=1))=true->nm 2/\aG IntKind.i64 ((m.tdiv g).tmod 2))/\
            ((decide ((r.tdiv g).tmod 2=1)||decide ((m.tdiv g).tmod 2=1))=true->
              aG IntKind.i64 (fQ r m g+g)/\
               aG IntKind.i64 (g*2)/\
                ∃g',
                 jS g'/\
                  (8-g').toNat<(8-g).toNat/\
                   r=r/\m=m/\fQ r m g+g=fQ r m g'/\g*2=g')/\
              ((decide ((r.tdiv g).tmod 2=1)||decide ((m.tdiv g).tmod 2=1))=false->
                aG IntKind.i64 (g*2)/\
                 ∃g',
                  jS g'/\
                   (8-g').toNat<(8-g).toNat/\
                    r=r/\m=m/\fQ r m g=fQ r m g'/\g*2=g'))/\
     (decide (g<=4)=false->fQ r m g=gw r m):=by
 refine⟨⟨1,.inl rfl,rfl,rfl,by simp[fQ],rfl⟩,fun g hg=>⟨fun hlt=>?_,fun hge=>?_⟩⟩
 ·have hlt:=Yn hlt;have hne:nm g:=by unfold nm;rcases hg with rfl|rfl|rfl|rfl<;>omega
  have h2:nm 2:=by unfold nm;omega
  have hs:=Ck (r:=r) (m:=m) (g:=g)
  have hn:∃g',jS g'/\(8-g').toNat<(8-g).toNat/\g*2=g':=by
   rcases hg with rfl|rfl|rfl|rfl
   ·exact⟨2,.inr (.inl rfl),by omega,rfl⟩
   ·exact⟨4,.inr (.inr (.inl rfl)),by omega,rfl⟩
   ·exact⟨8,.inr (.inr (.inr rfl)),by omega,rfl⟩
   ·omega
  obtain⟨g',hg1,hg2,rfl⟩:=hn;have hm:aG IntKind.i64 (g*2):=by simp only[aG,bY];rcases hg with rfl|rfl|rfl|rfl<;>omega
  refine⟨⟨hne,sG hr hg⟩,⟨h2,nO _⟩,fun _=>⟨hne,sG hm0 hg⟩,fun _=>⟨h2,nO _⟩,fun h=>⟨by simp only[aG,bY];omega,hm,_,hg1,hg2,rfl,rfl,?_,rfl⟩,fun h=>⟨hm,_,hg1,hg2,rfl,rfl,?_,rfl⟩⟩
  ·rcases hg with rfl|rfl|rfl|rfl
   ·simp[fQ,fW]at h⊢;grind
   ·simp[fQ,fW]at h⊢;grind
   ·simp[fQ,fW]at h⊢;grind
   ·omega
  ·rcases hg with rfl|rfl|rfl|rfl
   ·simp[fQ,fW,h]at h⊢ <;>grind
   ·simp[fQ,fW,h]at h⊢ <;>grind
   ·simp[fQ,fW,h]at h⊢ <;>grind
   ·omega
 ·have hge:=Ym hge;rcases hg with rfl|rfl|rfl|rfl<;>first|rfl|omega
theorem xp:ck Tryz.prog 29 Q4:=
 mj (fy .i64) (fy .i64) (fun _ _=>rfl) fun r m hr hm=>aV (inl:=bp) (ann:=(iB [(29,3,Rk [0,1,4] (fun g=> [(5,.it .i64 (fQ r m g)),(6,.it .i64 g)]) jS 8)])) ak (Lh r m hr hm) (by kernel_rfl)
theorem NA (k:Key):
 (decide (k.kind=2)=true->
   {kind:=k.kind,oid:=k.oid,count:=k.count,call:=k.call,rights:=gw k.rights 3,
    value:=k.value}=
    jU k)/\
  (decide (k.kind=2)=false->
   (decide (k.kind=3)=true->
     {kind:=k.kind,oid:=k.oid,count:=k.count,call:=k.call,rights:=1,value:=k.value}=
      jU k)/\
    (decide (k.kind=3)=false->
     (decide (k.kind=1)=true->
       (decide (k.kind=1)=true->k=jU k)/\(decide (k.kind=1)=false->void=jU k))/\
      (decide (k.kind=1)=false->
       (decide (k.kind=8)=true->k=jU k)/\(decide (k.kind=8)=false->void=jU k)))):=by
 unfold jU cM;grind
theorem KR:ck Tryz.prog 191 PQ:=
 oN fz (fun _=>rfl) fun k hk=>aV (inl:=bp) (ann:=aP) (ab xp ak) (NA k) (by kernel_rfl)
theorem Hm (k:Key):
 ((!decide (bD k=0))=true->void=gC k/\2=bD k)/\
   ((!decide (bD k=0))=false->
     ((decide (k.kind=2)||(decide (k.kind=3)||(decide (k.kind=1)||decide (k.kind=8))))=true->
       (decide (k.kind=2)=true->
         true=true/\
          {kind:=k.kind,oid:=k.oid,count:=k.count,call:=k.call,
             rights:=bc BinOp.or IntKind.i64 k.rights 3,value:=k.value}=
           gC k/\
           0=bD k)/\
        (decide (k.kind=2)=false->
         (decide (k.kind=3)=true->
           true=true/\
            {kind:=k.kind,oid:=k.oid,count:=k.count,call:=k.call,
               rights:=bc BinOp.or IntKind.i64 k.rights 1,value:=k.value}=
             gC k/\
             0=bD k)/\
          (decide (k.kind=3)=false->
           (decide (k.kind=1)=true->true=true/\k=gC k/\0=bD k)/\
            (decide (k.kind=1)=false->
             (decide (k.kind=8)=true->true=true/\k=gC k/\0=bD k)/\
              (decide (k.kind=8)=false->False)))))/\
       ((decide (k.kind=2)||(decide (k.kind=3)||(decide (k.kind=1)||decide (k.kind=8))))=false->
         void=gC k/\0=bD k)):=by
 unfold gC bD;cases hok:aT k
 ·simp
 have hr:=gT hok;have o3:k.kind=2->bc BinOp.or IntKind.i64 k.rights 3=gw k.rights 3:=fun e=>ND hr.1 (by rw[e]at hr;exact hr.2)
 have o1:k.kind=3->bc BinOp.or IntKind.i64 k.rights 1=1:=fun e=>Df hr.1 (by rw[e]at hr;exact hr.2)
 unfold jU cM;grind
theorem zG:ck Tryz.prog 184 Iq:=
 oN fz (fun _=>rfl) fun k hk=>bn (inl:=(fun f=>f==201||f==199)) (ann:=aP) (ab jf (ab Rc ak)) aC (Hm k) (by kernel_rfl)
end Go.Proofs.YtghpaegglbbocaaGreat
namespace Go.Proofs.YtghpaegglbbocaaGreat
open Go.Sx
set_option maxRecDepth 100000
theorem KB (o:Sx.Obj) (k:Key) (i:Int) (hq:nz k i):
 (0<=i/\i< ↑16)/\
  ((!decide (bc BinOp.and IntKind.i64 k.rights 2=0))=true->
    gC (ae [] (o.slots.at i.toNat))=iC [] o k i)/\
    ((!decide (bc BinOp.and IntKind.i64 k.rights 2=0))=false->
      ae [] (o.slots.at i.toNat)=iC [] o k i):=by
 exact Gl hq
theorem Oy (o:Sx.Obj) (L:List Sx.Obj) (k:Key) (i:Int) (hq:nz k i):
 (0<=i/\i< ↑16)/\
  ((!decide (bc BinOp.and IntKind.i64 k.rights 2=0))=true->
    gC (ae L (o.slots.at i.toNat))=iC L o k i)/\
    ((!decide (bc BinOp.and IntKind.i64 k.rights 2=0))=false->ae L (o.slots.at i.toNat)=iC L o k i):=by
 exact Gl hq
theorem m6:ck Tryz.prog 135 Ua:=
 eW (aJ (Ui VA) (aJ fm cF)) (fun _=>rfl) fun a hq hok=>by
  obtain⟨⟨o,S,k,_⟩,i,_⟩:=a;cases S with
  |none=>exact aV (inl:=bp) (ann:=aP) (ab ld (ab zG ak)) (KB o k i hq) (by kernel_rfl)
  |some L=>exact aV (inl:=bp) (ann:=aP) (ab ld (ab zG ak)) (Oy o L k i hq) (by kernel_rfl)
theorem KW (L:List Sx.Obj) (k:Key) (d:Int) (c:Bool):
 (decide (b9 (ai L)=0)=true->1=ay L k d c)/\
  (decide (b9 (ai L)=0)=false->
   ((!aU L k|| !decide (k.kind=d))=true->190=ay L k d c)/\
     ((!aU L k|| !decide (k.kind=d))=false->
       (c=true->nm 4/\aG IntKind.i64 (k.rights.tmod 4))/\
        ((c&& !decide (k.rights.tmod 4=0))=true->191=ay L k d c)/\
          ((c&& !decide (k.rights.tmod 4=0))=false->0=ay L k d c))):=by
 unfold ay;refine⟨fun h=>?_,fun h=>⟨fun h2=>?_,fun h2=>⟨fun hc=>⟨by unfold nm;omega,?_⟩,fun h3=>?_,fun h3=>?_⟩⟩⟩
 ·rw[Yq (by simpa[b9]using h)]
 ·rw[Yp (by simpa[b9]using h),Yq h2]
 ·have h1:=Int.tmod_lt_of_pos k.rights (show(0:Int)<4 by omega)
  have h2:=Int.lt_tmod_of_pos k.rights (show(0:Int)<4 by omega)
  simp only[aG,bY];omega
 ·rw[Yp (by simpa[b9]using h),Yp (by rw[h2];simp),Yq h3]
 ·rw[Yp (by simpa[b9]using h),Yp (by rw[h2];simp),Yp (by rw[h3];simp)]
theorem nP:ck Tryz.prog 176 Q3:=
 eW (aJ js (aJ gQ (aJ fm (aJ Gs cF)))) (fun _=>rfl) fun a hq hok=>by
  obtain⟨L,k,d,c,_⟩:=a;exact aV (inl:=bp) (ann:=aP) (ab mC ak) (KW L k d c) (by kernel_rfl)
theorem Re (L:List Sx.Obj) (k:Key) (i:Int) (hk:bY .i64 k.rights) (hq:m9 L k i):
 (0<=k.oid/\k.oid< ↑(ai L))/\
  (0<=i/\i< ↑16)/\
   k.oid.toNat<ai L/\
    (nm 2/\aG IntKind.i64 (k.rights.tdiv 2))/\
     (nm 2/\aG IntKind.i64 ((k.rights.tdiv 2).tmod 2))/\
      (decide ((k.rights.tdiv 2).tmod 2=1)=true->
        jU (ae L ((ah L k.oid.toNat free).slots.at i.toNat))=cK L k i)/\
       (decide ((k.rights.tdiv 2).tmod 2=1)=false->
        ae L ((ah L k.oid.toNat free).slots.at i.toNat)=cK L k i):=by
 obtain⟨h0,h1,h2,h3⟩:=hq;have e2:nm 2:=by unfold nm;omega
 refine⟨⟨h2,h3⟩,⟨h0,by omega⟩,by omega,⟨e2,sG hk (.inr (.inl rfl))⟩,⟨e2,nO _⟩,fun h=>?_,fun h=>?_⟩
 ·unfold cK iC qP;rw[Yq h]
 ·unfold cK iC qP;rw[Yp (by rw[h];simp)]
theorem wD:ck Tryz.prog 177 TV:=
 eW (aJ js (aJ gQ (aJ fm cF))) (fun _=>rfl) fun a hq hok=>by
  obtain⟨L,k,i,_⟩:=a;exact aV (inl:=bp) (ann:=aP) (ab qo (ab KR ak)) (Re L k i hok.2.1.2.2.2.2.1 hq) (by kernel_rfl)
theorem S7 (L:List Sx.Obj) (k:Key):
 (decide (bD k=0)&&decide (aX k<b9 (ai L)))=cZ L k:=by
 unfold cZ bD b9;cases aT k<;>simp
theorem A5:ck Tryz.prog 42 VP:=
 eW (aJ js (aJ gQ cF)) (fun _=>rfl) fun a hq hok=>by
  obtain⟨L,k,_⟩:=a;exact aV (inl:=bp) (ann:=aP) (ab rk (ab me ak)) (S7 L k) (by kernel_rfl)
theorem QP (L:List Sx.Obj) (i:Int) (o:Sx.Obj) (hq:dR L i):
 Md (ai L) 856/\
  (0<=i/\i< ↑(ai L))/\
   i.toNat<ai L/\
    ∀(nid:Nat),
     some (V.sa nid)=some (V.sa nid)/\
      some [aI.arr (some tO) 163 (TL.ob (cB L i.toNat o))]=
       some [aI.arr (some tO) 163 (TL.ob (cB L i.toNat o))]:=by
 obtain⟨h0,h1,h2⟩:=hq;exact⟨⟨by simp only[maxLen];omega,by omega⟩,⟨h0,h1⟩,by omega,fun nid=>⟨rfl,rfl⟩⟩
theorem kC:ck Tryz.prog 178 S9:=
 Rh (π:=fun _=> [2]) (aJ js (aJ fm (aJ R6 cF))) (fun _=>by simp) (fun _ _=>rfl) fun a hq hok=>by
  obtain⟨L,i,o,_⟩:=a;exact aV (inl:=bp) (ann:=aP) ak (QP L i o hq) (by kernel_rfl)
theorem ID (k:Key) (i:Int):
 true=true/\
  true=true/\
   ((!decide (0<an []))=true->void=aF [] k i/\1=bI [] k i)/\
     ((!decide (0<an []))=false->
       true=true/\
        ((!(aU [] k&&decide (k.kind=2)))=true->void=aF [] k i/\190=bI [] k i)/\
          ((!(aU [] k&&decide (k.kind=2)))=false->
            true=true/\
             true=true/\
              ((!(decide (0<=i)&&decide (i<16)))=true->void=aF [] k i/\4=bI [] k i)/\
                ((!(decide (0<=i)&&decide (i<16)))=false->
                  nz k i/\iC [] (aa [] k) k i=aF [] k i/\0=bI [] k i))):=by
 have hE:∀e,ay [] k 2 false=e->e≠0->void=aF [] k i/\e=bI [] k i:=fun e h h0=>by
  unfold aF bI;rw[h,Yp h0,Yp h0];exact⟨rfl,rfl⟩
 refine⟨rfl,rfl,fun h=>hE _ ?_ (by omega),fun h=>⟨rfl,fun h2=>hE _ ?_ (by omega),fun h2=>⟨rfl,rfl,fun h3=>?_,fun h3=>?_⟩⟩⟩
 ·unfold ay;unfold an at h;rw[Yq (by simp at h;omega)]
 ·unfold ay;unfold an at h;rw[Yp (by simp at h;omega),Yq (by simpa using h2)]
 ·have hA:ay [] k 2 false=0:=by
   unfold ay;unfold an at h;rw[Yp (by simp at h;omega),Yp (by simpa using h2),Yp (by simp)]
  rw[Bool.not_eq_true']at h3;unfold aF bI ju;rw[hA,Yq rfl,h3];exact⟨rfl,rfl⟩
 ·have hA:ay [] k 2 false=0:=by
   unfold ay;unfold an at h;rw[Yp (by simp at h;omega),Yp (by simpa using h2),Yp (by simp)]
  obtain⟨a1,_,_⟩:=fH hA;obtain⟨b1,b2,b3,b4,_⟩:=dz a1;rw[Bool.not_eq_false']at h3;have h3':0<=i/\i<16:=by simpa using h3
  unfold aF bI ju;rw[hA,Yq rfl,h3,Yq rfl,Yq rfl,b4];exact⟨⟨h3'.1,h3'.2,b1⟩,rfl,rfl⟩
theorem Pn (L:List Sx.Obj) (k:Key) (i:Int):
 true=true/\
  true=true/\
   ((!decide (0<an L))=true->void=aF L k i/\1=bI L k i)/\
     ((!decide (0<an L))=false->
       true=true/\
        ((!(aU L k&&decide (k.kind=2)))=true->void=aF L k i/\190=bI L k i)/\
          ((!(aU L k&&decide (k.kind=2)))=false->
            true=true/\
             true=true/\
              ((!(decide (0<=i)&&decide (i<16)))=true->void=aF L k i/\4=bI L k i)/\
                ((!(decide (0<=i)&&decide (i<16)))=false->
                  nz k i/\iC L (aa L k) k i=aF L k i/\0=bI L k i))):=by
 have hE:∀e,ay L k 2 false=e->e≠0->void=aF L k i/\e=bI L k i:=fun e h h0=>by
  unfold aF bI;rw[h,Yp h0,Yp h0];exact⟨rfl,rfl⟩
 refine⟨rfl,rfl,fun h=>hE _ ?_ (by omega),fun h=>⟨rfl,fun h2=>hE _ ?_ (by omega),fun h2=>⟨rfl,rfl,fun h3=>?_,fun h3=>?_⟩⟩⟩
 ·unfold ay;unfold an at h;rw[Yq (by simp at h;omega)]
 ·unfold ay;unfold an at h;rw[Yp (by simp at h;omega),Yq (by simpa using h2)]
 ·have hA:ay L k 2 false=0:=by
   unfold ay;unfold an at h;rw[Yp (by simp at h;omega),Yp (by simpa using h2),Yp (by simp)]
  rw[Bool.not_eq_true']at h3;unfold aF bI ju;rw[hA,Yq rfl,h3];exact⟨rfl,rfl⟩
 ·have hA:ay L k 2 false=0:=by
   unfold ay;unfold an at h;rw[Yp (by simp at h;omega),Yp (by simpa using h2),Yp (by simp)]
  obtain⟨a1,_,_⟩:=fH hA;obtain⟨b1,b2,b3,b4,_⟩:=dz a1;rw[Bool.not_eq_false']at h3;have h3':0<=i/\i<16:=by simpa using h3
  unfold aF bI ju;rw[hA,Yq rfl,h3,Yq rfl,Yq rfl,b4];exact⟨⟨h3'.1,h3'.2,b1⟩,rfl,rfl⟩
theorem rl:ck Tryz.prog 63 T7:=
 eW (aJ sZ (aJ gQ (aJ fm cF))) (fun _=>rfl) fun a hq hok=>by
  obtain⟨S,k,i,_⟩:=a;cases S with
  |none=>exact aW (inl:=(fun f=>f==134||f==133)) (ann:=aP) (ab bB (ab bL (ab m6 ak))) aC (eF gH) (ID k i) (by kernel_rfl)
  |some L=>exact aW (inl:=(fun f=>f==134||f==133)) (ann:=aP) (ab bB (ab bL (ab m6 ak))) aC (eF gH) (Pn L k i) (by kernel_rfl)
end Go.Proofs.YtghpaegglbbocaaGreat
namespace Go.Proofs.YtghpaegglbbocaaGreat
open Go.Sx
set_option maxRecDepth 100000
theorem Mp (k:Key) (i:Int) (v:Key):
 true=true/\
  true=true/\
   ((!decide (0<an []))=true->void=cy [] k i v/\1=ba [] k i v)/\
     ((!decide (0<an []))=false->
       true=true/\
        ((!(aU [] k&&decide (k.kind=2)))=true->void=cy [] k i v/\190=ba [] k i v)/\
          ((!(aU [] k&&decide (k.kind=2)))=false->
            true=true/\
             ((!decide (bc BinOp.and IntKind.i64 k.rights 3=0))=true->
               void=cy [] k i v/\191=ba [] k i v)/\
               ((!decide (bc BinOp.and IntKind.i64 k.rights 3=0))=false->
                 true=true/\
                  ((!(decide (0<=i)&&decide (i<16)))=true->
                      void=cy [] k i v/\4=ba [] k i v)/\
                    ((!(decide (0<=i)&&decide (i<16)))=false->
                      true=true/\
                       ((!(decide (bD v=0)&&(!bf v||decide (cS v<an []))))=true->
                           void=cy [] k i v/\2=ba [] k i v)/\
                         ((!(decide (bD v=0)&&(!bf v||decide (cS v<an []))))=false->
                           nz k i/\
                            true=true/\
                             true=true/\
                              (0<=i/\i< ↑16)/\
                               true=true/\
                                iC [] (aa [] k) k i=cy [] k i v/\0=ba [] k i v))))):=by
 refine⟨rfl,rfl,fun _=>⟨rfl,rfl⟩,fun h=>absurd h (by decide)⟩
theorem MA (k:Key) (i:Int) (v:Key):
 true=true/\
  true=true/\
   ((!decide (0<an []))=true->void=cy [] k i v/\1=ba [] k i v)/\
     ((!decide (0<an []))=false->
       true=true/\
        ((!(aU [] k&&decide (k.kind=2)))=true->void=cy [] k i v/\190=ba [] k i v)/\
          ((!(aU [] k&&decide (k.kind=2)))=false->
            true=true/\
             ((!decide (bc BinOp.and IntKind.i64 k.rights 3=0))=true->
               void=cy [] k i v/\191=ba [] k i v)/\
               ((!decide (bc BinOp.and IntKind.i64 k.rights 3=0))=false->
                 true=true/\
                  ((!(decide (0<=i)&&decide (i<16)))=true->
                      void=cy [] k i v/\4=ba [] k i v)/\
                    ((!(decide (0<=i)&&decide (i<16)))=false->
                      true=true/\
                       ((!(decide (bD v=0)&&(!bf v||decide (cS v<an []))))=true->
                           void=cy [] k i v/\2=ba [] k i v)/\
                         ((!(decide (bD v=0)&&(!bf v||decide (cS v<an []))))=false->
                           nz k i/\true=true/\true=true/\(0<=i/\i< ↑16)/\true=true/\False))))):=by
 refine⟨rfl,rfl,fun _=>⟨rfl,rfl⟩,fun h=>absurd h (by decide)⟩
theorem PB (L:List Sx.Obj) (k:Key) (i:Int) (v:Key) (hL:aq L):
 true=true/\
  true=true/\
   ((!decide (0<an L))=true->(void=cy L k i v/\1=ba L k i v)/\L=b6 L k i v)/\
     ((!decide (0<an L))=false->
       true=true/\
        ((!(aU L k&&decide (k.kind=2)))=true->
            (void=cy L k i v/\190=ba L k i v)/\L=b6 L k i v)/\
          ((!(aU L k&&decide (k.kind=2)))=false->
            true=true/\
             ((!decide (bc BinOp.and IntKind.i64 k.rights 3=0))=true->
               (void=cy L k i v/\191=ba L k i v)/\L=b6 L k i v)/\
               ((!decide (bc BinOp.and IntKind.i64 k.rights 3=0))=false->
                 true=true/\
                  ((!(decide (0<=i)&&decide (i<16)))=true->
                      (void=cy L k i v/\4=ba L k i v)/\L=b6 L k i v)/\
                    ((!(decide (0<=i)&&decide (i<16)))=false->
                      true=true/\
                       ((!(decide (bD v=0)&&(!bf v||decide (cS v<an L))))=true->
                           (void=cy L k i v/\2=ba L k i v)/\L=b6 L k i v)/\
                         ((!(decide (bD v=0)&&(!bf v||decide (cS v<an L))))=false->
                           nz k i/\
                            true=true/\
                             true=true/\
                              (0<=i/\i< ↑16)/\
                               true=true/\
                                (iC L (aa L k) k i=cy L k i v/\0=ba L k i v)/\
                                 cW L k.oid
                                   {kind:=(aa L k).kind,count:=(aa L k).count,
                                    calls:=(aa L k).calls,
                                    slots:=(aa L k).slots.put i.toNat (ae L v),
                                    bytes:=(aa L k).bytes}=
                                  b6 L k i v))))):=by
 have fin:∀e,ba L k i v=e->e≠0->(void=cy L k i v/\e=ba L k i v)/\L=b6 L k i v:=fun e h h0=>by
  unfold cy b6;rw[h,Yp h0,Yp h0];exact⟨⟨rfl,rfl⟩,rfl⟩
 have bad:∀e,ay L k 2 true=e->e≠0->ba L k i v=e:=fun e h h0=>by unfold ba;rw[h,Yp h0]
 refine⟨rfl,rfl,fun h=>fin _ (bad _ (IU h) (by omega)) (by omega),fun h=>⟨rfl,fun h2=>fin _ (bad _ (He h h2) (by omega)) (by omega),fun h2=>⟨rfl,fun h3=>fin _ (bad _ (Ur h h2 h3) (by omega)) (by omega),fun h3=>⟨rfl,fun h4=>fin 4 ?_ (by omega),fun h4=>⟨rfl,fun h5=>fin 2 ?_ (by omega),fun h5=>?_⟩⟩⟩⟩⟩
 ·rw[Bool.not_eq_true']at h4;unfold ba ju;rw[G6 h h2 h3,Yq rfl,h4];rfl
 ·rw[Bool.not_eq_false']at h4;have hm:cZ L v=false:=by rw[<-Ba];rw[Bool.not_eq_true']at h5;exact h5
  unfold ba ju;rw[G6 h h2 h3,Yq rfl,h4,hm];rfl
 ·rw[Bool.not_eq_false']at h4;have h4':0<=i/\i<16:=by simpa using h4
  have hm:cZ L v=true:=by rw[<-Ba];rw[Bool.not_eq_false']at h5;exact h5
  have hE:ba L k i v=0:=by
   unfold ba ju;rw[G6 h h2 h3,Yq rfl,h4,hm];rfl
  obtain⟨a1,a2⟩:=mB h2;obtain⟨b1,b2,b3,b4,_⟩:=dz a1;have hp:=(oi hL a1 a2 (Ce (v:=v) hL a1 a2 h4'.1 h4'.2)).1;unfold cy b6;rw[hE,Yq rfl,Yq rfl,<-hp,b4];exact⟨⟨h4'.1,h4'.2,b1⟩,rfl,rfl,⟨h4'.1,by omega⟩,rfl,⟨rfl,rfl⟩,rfl⟩
theorem O6 (L:List Sx.Obj) (k:Key) (i:Int) (v:Key) (hL:aq L):aj Tryz.prog 66 [.lp 0 0,.key k,.it .i64 i,.key v] [.store tS eS L] (Cn (.tp [.key (cy L k i v),.it .i64 (ba L k i v)]) (b6 L k i v)) (fun _ _=>False):=
 aW (inl:=(fun f=>f==134||f==133||f==136||f==137)) (ann:=aP) (ab bB (ab bL (ab m6 (ab eY (ab jf (ab ld ak)))))) (aD dO aC) (eF gH) (PB L k i v hL) (by kernel_rfl)
theorem Gq:lA Tryz.prog 66 T5:=
 mD (m:=fun x=> [.key x.1,.it .i64 x.2.1,.key x.2.2]) K8 (fun _=>rfl) (fun _ _=>rfl) (fun x=>aW (inl:=(fun f=>f==134||f==133||f==136||f==137)) (ann:=aP) (ab bB (ab bL (ab m6 (ab eY (ab jf (ab ld ak)))))) (aD dO aC) (eF gH) (Mp x.1 x.2.1 x.2.2) (by kernel_rfl)) (fun x=>aW (inl:=(fun f=>f==134||f==133||f==136||f==137)) (ann:=aP) (ab bB (ab bL (ab m6 (ab eY (ab jf (ab ld ak)))))) (aD dO aC) (eF gH) (MA x.1 x.2.1 x.2.2) (by kernel_rfl)) fun L x hL _ _=>O6 L x.1 x.2.1 x.2.2 hL
theorem LM (k:Key):
 true=true/\
  true=true/\
   ((!decide (0<an []))=true->1=ay [] k 2 true)/\
     ((!decide (0<an []))=false->
       true=true/\
        ((!(aU [] k&&decide (k.kind=2)))=true->190=ay [] k 2 true)/\
          ((!(aU [] k&&decide (k.kind=2)))=false->
            true=true/\
             ((!decide (bc BinOp.and IntKind.i64 k.rights 3=0))=true->191=ay [] k 2 true)/\
               ((!decide (bc BinOp.and IntKind.i64 k.rights 3=0))=false->
                 true=true/\true=true/\true=true/\0=ay [] k 2 true))):=by
 refine⟨rfl,rfl,fun _=>rfl,fun h=>absurd h (by decide)⟩
theorem Je (k:Key):
 true=true/\
  true=true/\
   ((!decide (0<an []))=true->1=ay [] k 2 true)/\
     ((!decide (0<an []))=false->
       true=true/\
        ((!(aU [] k&&decide (k.kind=2)))=true->190=ay [] k 2 true)/\
          ((!(aU [] k&&decide (k.kind=2)))=false->
            true=true/\
             ((!decide (bc BinOp.and IntKind.i64 k.rights 3=0))=true->191=ay [] k 2 true)/\
               ((!decide (bc BinOp.and IntKind.i64 k.rights 3=0))=false->
                 true=true/\true=true/\true=true/\False))):=by
 refine⟨rfl,rfl,fun _=>rfl,fun h=>absurd h (by decide)⟩
theorem PS (L:List Sx.Obj) (k:Key) (hL:aq L):
 true=true/\
  true=true/\
   ((!decide (0<an L))=true->1=ay L k 2 true/\L=eT L k)/\
     ((!decide (0<an L))=false->
       true=true/\
        ((!(aU L k&&decide (k.kind=2)))=true->190=ay L k 2 true/\L=eT L k)/\
          ((!(aU L k&&decide (k.kind=2)))=false->
            true=true/\
             ((!decide (bc BinOp.and IntKind.i64 k.rights 3=0))=true->
               191=ay L k 2 true/\L=eT L k)/\
               ((!decide (bc BinOp.and IntKind.i64 k.rights 3=0))=false->
                 true=true/\
                  true=true/\
                   true=true/\
                    0=ay L k 2 true/\
                     cW L k.oid
                       {kind:=(aa L k).kind,count:=(aa L k).count,calls:=(aa L k).calls,
                        slots:=fY,bytes:=(aa L k).bytes}=
                      eT L k))):=by
 have fin:∀e,ay L k 2 true=e->e≠0->e=ay L k 2 true/\L=eT L k:=fun e h h0=>by
  unfold eT;rw[h,Yp h0];exact⟨rfl,rfl⟩
 refine⟨rfl,rfl,fun h=>fin _ (IU h) (by omega),fun h=>⟨rfl,fun h2=>fin _ (He h h2) (by omega),fun h2=>⟨rfl,fun h3=>fin _ (Ur h h2 h3) (by omega),fun h3=>⟨rfl,rfl,rfl,?_⟩⟩⟩⟩
 obtain⟨a1,a2⟩:=mB h2;have hp:=(oi hL a1 a2 (FC (by omega))).1
 unfold eT;rw[G6 h h2 h3,Yq rfl,<-hp];exact⟨rfl,rfl⟩
theorem QF (L:List Sx.Obj) (k:Key) (hL:aq L):aj Tryz.prog 69 [.lp 0 0,.key k] [.store tS eS L] (Cn (.it .i64 (ay L k 2 true)) (eT L k)) (fun _ _=>False):=
 aW (inl:=(fun f=>f==134||f==133||f==136||f==138)) (ann:=aP) (ab bB (ab bL ak)) (aD dO aC) (eF gH) (PS L k hL) (by kernel_rfl)
theorem PX:lA Tryz.prog 69 UD:=
 mD (m:=fun x=> [.key x]) KZ (fun _=>rfl) (fun _ _=>rfl) (fun x=>aW (inl:=(fun f=>f==134||f==133||f==136||f==138)) (ann:=aP) (ab bB (ab bL ak)) (aD dO aC) (eF gH) (LM x) (by kernel_rfl)) (fun x=>aW (inl:=(fun f=>f==134||f==133||f==136||f==138)) (ann:=aP) (ab bB (ab bL ak)) (aD dO aC) (eF gH) (Je x) (by kernel_rfl)) fun L x hL _ _=>QF L x hL
theorem JV (t f:Key):
 true=true/\
  true=true/\
   ((!decide (0<an []))=true->1=bG [] t f)/\
     ((!decide (0<an []))=false->
       true=true/\
        ((!(aU [] t&&decide (t.kind=2)))=true->190=bG [] t f)/\
          ((!(aU [] t&&decide (t.kind=2)))=false->
            true=true/\
             ((!decide (bc BinOp.and IntKind.i64 t.rights 3=0))=true->191=bG [] t f)/\
               ((!decide (bc BinOp.and IntKind.i64 t.rights 3=0))=false->
                 true=true/\
                  true=true/\
                   ((!decide (0<an []))=true->1=bG [] t f)/\
                     ((!decide (0<an []))=false->
                       true=true/\
                        ((!(aU [] f&&decide (f.kind=2)))=true->190=bG [] t f)/\
                          ((!(aU [] f&&decide (f.kind=2)))=false->
                            true=true/\true=true/\true=true/\False))))):=by
 refine⟨rfl,rfl,fun _=>rfl,fun h=>absurd h (by decide)⟩
theorem H8 (t f:Key):
 true=true/\
  true=true/\
   ((!decide (0<an []))=true->1=bG [] t f)/\
     ((!decide (0<an []))=false->
       true=true/\
        ((!(aU [] t&&decide (t.kind=2)))=true->190=bG [] t f)/\
          ((!(aU [] t&&decide (t.kind=2)))=false->
            true=true/\
             ((!decide (bc BinOp.and IntKind.i64 t.rights 3=0))=true->191=bG [] t f)/\
               ((!decide (bc BinOp.and IntKind.i64 t.rights 3=0))=false->
                 true=true/\
                  true=true/\
                   ((!decide (0<an []))=true->1=bG [] t f)/\
                     ((!decide (0<an []))=false->
                       true=true/\
                        ((!(aU [] f&&decide (f.kind=2)))=true->190=bG [] t f)/\
                          ((!(aU [] f&&decide (f.kind=2)))=false->
                            true=true/\true=true/\true=true/\False))))):=by
 refine⟨rfl,rfl,fun _=>rfl,fun h=>absurd h (by decide)⟩
theorem PW (L:List Sx.Obj) (t f:Key) (hL:aq L):
 true=true/\
  true=true/\
   ((!decide (0<an L))=true->1=bG L t f/\L=dZ L t f)/\
     ((!decide (0<an L))=false->
       true=true/\
        ((!(aU L t&&decide (t.kind=2)))=true->190=bG L t f/\L=dZ L t f)/\
          ((!(aU L t&&decide (t.kind=2)))=false->
            true=true/\
             ((!decide (bc BinOp.and IntKind.i64 t.rights 3=0))=true->
               191=bG L t f/\L=dZ L t f)/\
               ((!decide (bc BinOp.and IntKind.i64 t.rights 3=0))=false->
                 true=true/\
                  true=true/\
                   ((!decide (0<an L))=true->1=bG L t f/\L=dZ L t f)/\
                     ((!decide (0<an L))=false->
                       true=true/\
                        ((!(aU L f&&decide (f.kind=2)))=true->
                            190=bG L t f/\L=dZ L t f)/\
                          ((!(aU L f&&decide (f.kind=2)))=false->
                            true=true/\
                             true=true/\
                              true=true/\
                               (∃g,
                                 kx g/\
                                  0=g/\
                                   L=L/\
                                    t=t/\
                                     f=f/\
                                      t=t/\
                                       aa L t=aa L t/\
                                        t=t/\
                                         aa L t=aa L t/\
                                          aa L t=aa L t/\
                                           t=t/\
                                            f=f/\
                                             aa L f=aa L f/\
                                              f=f/\
                                               aa L f=aa L f/\
                                                aa L f=aa L f/\
                                                 f=f/\
                                                  aa L t=
                                                    ep (aa L t)
                                                     (cX L t f g)/\
                                                   t=t)/\
                                ∀(g:Int),
                                 kx g->
                                  (decide (g<16)=true->
                                    nz f g/\
                                     (0<=g/\g< ↑16)/\
                                      aG IntKind.i64 (g+1)/\
                                       ∃g',
                                        kx g'/\
                                         nI g'<nI g/\
                                          g+1=g'/\
                                           L=L/\
                                            t=t/\
                                             f=f/\
                                              t=t/\
                                               aa L t=aa L t/\
                                                t=t/\
                                                 aa L t=aa L t/\
                                                  aa L t=aa L t/\
                                                   t=t/\
                                                    f=f/\
                                                     aa L f=aa L f/\
                                                      f=f/\
                                                       aa L f=aa L f/\
                                                        aa L f=aa L f/\
                                                         f=f/\
                                                          {
                                                             kind:=
                                                              (ep
                                                                (aa L t)
                                                                (cX L t
                                                                 f
                                                                 g)).kind,
                                                             count:=
                                                              (ep
                                                                (aa L t)
                                                                (cX L t
                                                                 f
                                                                 g)).count,
                                                             calls:=
                                                              (ep
                                                                (aa L t)
                                                                (cX L t
                                                                 f
                                                                 g)).calls,
                                                             slots:=
                                                              (ep
                                                                 (aa
                                                                  L t)
                                                                 (cX
                                                                  L t f
                                                                  g)).slots.put
                                                               g.toNat
                                                               (iC L
                                                                (aa L f)
                                                                f g),
                                                             bytes:=
                                                              (ep
                                                                (aa L t)
                                                                (cX L t
                                                                 f
                                                                 g)).bytes}=
                                                            ep (aa L t)
                                                             (cX L t f
                                                              g')/\
                                                           t=t)/\
                                   (decide (g<16)=false->
                                    true=true/\
                                     0=bG L t f/\
                                      cW L t.oid (ep (aa L t) (cX L t f g))=
                                       dZ L t f)))))):=by
 have fin:∀e,bG L t f=e->e≠0->e=bG L t f/\L=dZ L t f:=fun e h h0=>by
  unfold dZ;rw[h,Yp h0];exact⟨rfl,rfl⟩
 have bad:∀e,ay L t 2 true=e->e≠0->bG L t f=e:=fun e h h0=>by unfold bG;rw[h,Yp h0]
 refine⟨rfl,rfl,fun h=>fin _ (bad _ (IU h) (by omega)) (by omega),fun h=>⟨rfl,fun h2=>fin _ (bad _ (He h h2) (by omega)) (by omega),fun h2=>⟨rfl,fun h3=>fin _ (bad _ (Ur h h2 h3) (by omega)) (by omega),fun h3=>⟨rfl,rfl,fun h4=>?_,fun h4=>⟨rfl,fun h5=>fin 190 ?_ (by omega),fun h5=>⟨rfl,rfl,rfl,?_,fun g hg=>⟨fun hlt=>?_,fun hge=>?_⟩⟩⟩⟩⟩⟩⟩
 ·rw[h]at h4;simp at h4
 ·unfold bG;rw[G6 h h2 h3,Yq rfl,He h h5]
 ·obtain⟨a1,a2⟩:=mB h2;refine⟨0,⟨by omega,by omega⟩,?_⟩
  have:=Di (f:=f) (dz a1).2.2.2.1;repeat' apply And.intro
  all_goals first|rfl|exact this
 ·obtain⟨g0,g1⟩:=hg;have hlt:=Yn hlt;obtain⟨a1,a2⟩:=mB h5;have hs:=CE (t:=t) g0 (dz a1).2.2.2.1 (aa L t) fY;refine⟨⟨g0,by omega,(dz a1).1⟩,⟨g0,by omega⟩,by simp only[aG,bY];omega,g+1,⟨by omega,by omega⟩,by unfold nI;omega,?_⟩
  repeat' apply And.intro
  all_goals first|rfl|exact hs
 ·obtain⟨g0,g1⟩:=hg;have hge:=Ym hge;have:g=16:=by omega
  subst this;obtain⟨a1,a2⟩:=mB h2;have hE:bG L t f=0:=by unfold bG;rw[G6 h h2 h3,Yq rfl,F3 h h5]
  have hp:=(oi hL a1 a2 (w8 (f:=f) hL a1 a2 16 (by omega))).1
  unfold dZ;rw[hE,Yq rfl];exact⟨rfl,rfl,hp⟩
theorem OD (L:List Sx.Obj) (t f:Key) (hL:aq L):aj Tryz.prog 71 [.lp 0 0,.key t,.key f] [.store tS eS L] (Cn (.it .i64 (bG L t f)) (dZ L t f)) (fun _ _=>False):=
 aW (inl:=(fun f=>f==134||f==133||f==136||f==139)) (ann:=(iB [(139,1,RL [0,1,2] (fun g=> [(4,.it .i64 g)]) 0 (X5 L t f) kx nI)])) (ab bB (ab bL (ab m6 ak))) (aD dO aC) (eF gH) (PW L t f hL) (by kernel_rfl)
theorem NV:lA Tryz.prog 71 Tj:=
 mD (m:=fun x=> [.key x.1,.key x.2]) Gm (fun _=>rfl) (fun _ _=>rfl) (fun x=>aW (inl:=(fun f=>f==134||f==133||f==136||f==139)) (ann:=aP) (ab bB (ab bL (ab m6 ak))) (aD dO aC) (eF gH) (JV x.1 x.2) (by kernel_rfl)) (fun x=>aW (inl:=(fun f=>f==134||f==133||f==136||f==139)) (ann:=aP) (ab bB (ab bL (ab m6 ak))) (aD dO aC) (eF gH) (H8 x.1 x.2) (by kernel_rfl)) fun L x hL _ _=>OD L x.1 x.2 hL
end Go.Proofs.YtghpaegglbbocaaGreat
