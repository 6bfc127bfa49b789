import Derived.Test.YtghpaegglbbocaaGreatKS
import Derived.Test.YtghpaegglbbocaaGreatCV
set_option linter.unusedSimpArgs false
set_option linter.unusedVariables false
namespace Go.Proofs.YtghpaegglbbocaaGreat
open Go.Sx
set_option maxRecDepth 100000
theorem La (k:Key):
 ((bC []|| !decide (bD k=0))=true->void=ae [] k)/\
   ((bC []|| !decide (bD k=0))=false->
     ((bg k&& !aU [] k)=true->void=ae [] k)/\((bg k&& !aU [] k)=false->k=ae [] k)):=by
 exact Cz [] k
theorem Ku (L:List Sx.Obj) (k:Key):
 ((bC L|| !decide (bD k=0))=true->void=ae L k)/\
   ((bC L|| !decide (bD k=0))=false->
     ((bg k&& !aU L k)=true->void=ae L k)/\((bg k&& !aU L k)=false->k=ae L k)):=by
 exact Cz L k
theorem lf:ck Tryz.prog 22 Sy:=
 wT fy (fun _ _=>rfl) (fun x _=>aV (inl:=bn) (ann:=aP) (ab oC (ab je (ab eY (ab bL ak)))) (La x) (by kernel_rfl)) (fun L x _ _ _=>aV (inl:=bn) (ann:=aP) (ab oC (ab je (ab eY (ab bL ak)))) (Ku L x) (by kernel_rfl)) fun _=>rfl
theorem IF (l:List Sx.Obj) (k:Key):
 ((decide (b9 (aj l)=0)|| !decide (bD k=0)||decide (0<=aY k)&& !aU l k)=true->
   void=ae l k)/\
   ((decide (b9 (aj l)=0)|| !decide (bD k=0)||decide (0<=aY k)&& !aU l k)=false->
     k=ae l k):=by
 exact Hp l k
theorem pC:ck Tryz.prog 45 OR:=FN fy (fun _ _=>rfl) (fun l k _ _ _=>aV (inl:=bn) (ann:=aP) (ab rm (ab l0 (ab mw ak))) (IF l k) (by kernel_rfl)) fun _=>rfl
end Go.Proofs.YtghpaegglbbocaaGreat
namespace Go.Sx
def Xu (nid:Nat):V:= .mp nid
def Xd (nid:Nat):List aI:= [.mp .i64 [2,3,1,8] [.fn 201 [.lp (nid+1) 0],.fn 201 [.lp (nid+1+1) 0],.fn 199 [],.fn 199 []],
 .blk 23 (.ci .i64 3),.blk 23 (.ci .i64 1)]
def tN:Nat:=166
def Yc (L:List Obj) (t f:Key) (g:Int):aI:= .blk tN (.ag [.ob (eo (aa L t) (cX L t f g)),.lp 0 0,.key t])
end Go.Sx
namespace Go.Proofs.YtghpaegglbbocaaGreat
open Go.Sx
set_option maxRecDepth 100000
theorem QX:
 true=true/\
 true=true/\
  ∀(nid:Nat),some (Xu nid)=some (Xu nid)/\some (Xd nid)=some (Xd nid):=by
 exact⟨rfl,rfl,fun nid=>⟨rfl,rfl⟩⟩
theorem Qe:ck Tryz.prog 193 (DJ Xu Xd):=yp (π:= [0,1,2]) (by decide) (fun _=>rfl) (bp (inl:=(fun f=>f==200)) (ann:=aP) ak aC QX (by kernel_rfl))
theorem I2 (r m:Int) (hr:bY .i64 r) (hm0:bY .i64 m):
 (∃g,jT g/\r=r/\m=m/\0=fQ r m g/\1=g)/\
  ∀(g:Int),
   jT g->
    (decide (g<=4)=true->
      (nf g/\aG IntKind.i64 (r.tdiv g))/\
       (nf 2/\aG IntKind.i64 ((r.tdiv g).tmod 2))/\
        ((!decide ((r.tdiv g).tmod 2=1))=true->nf g/\aG IntKind.i64 (m.tdiv g))/\
          ((!decide ((r.tdiv g).tmod 2=1))=true->nf 2/\aG IntKind.i64 ((m.tdiv g).tmod 2))/\
            ((decide ((r.tdiv g).tmod 2=1)||decide ((m.tdiv g).tmod 2=1))=true->
              aG IntKind.i64 (fQ r m g+g)/\
               aG IntKind.i64 (g*2)/\
                ∃g',
                 jT g'/\
                  (8-g').toNat<(8-g).toNat/\
                   r=r/\m=m/\fQ r m g+g=fQ r m g'/\g*2=g')/\
              ((decide ((r.tdiv g).tmod 2=1)||decide ((m.tdiv g).tmod 2=1))=false->
                aG IntKind.i64 (g*2)/\
                 ∃g',
                  jT g'/\
                   (8-g').toNat<(8-g).toNat/\
                    r=r/\m=m/\fQ r m g=fQ r m g'/\g*2=g'))/\
     (decide (g<=4)=false->fQ r m g=gx r m):=by
 refine⟨⟨1,.inl rfl,rfl,rfl,by simp[fQ],rfl⟩,fun g hg=>⟨fun hlt=>?_,fun hge=>?_⟩⟩
 ·have hlt:=Ys hlt;have hne:nf g:=by unfold nf;rcases hg with rfl|rfl|rfl|rfl<;>omega
  have h2:nf 2:=by unfold nf;omega
  have hs:=CZ (r:=r) (m:=m) (g:=g)
  have hn:∃g',jT g'/\(8-g').toNat<(8-g).toNat/\g*2=g':=by
   rcases hg with rfl|rfl|rfl|rfl
   ·exact⟨2,.inr (.inl rfl),by omega,rfl⟩
   ·exact⟨4,.inr (.inr (.inl rfl)),by omega,rfl⟩
   ·exact⟨8,.inr (.inr (.inr rfl)),by omega,rfl⟩
   ·omega
  obtain⟨g',hg1,hg2,rfl⟩:=hn;have hm:aG IntKind.i64 (g*2):=by simp only[aG,bY];rcases hg with rfl|rfl|rfl|rfl<;>omega
  refine⟨⟨hne,sT hr hg⟩,⟨h2,nV _⟩,fun _=>⟨hne,sT hm0 hg⟩,fun _=>⟨h2,nV _⟩,fun h=>⟨by simp only[aG,bY];omega,hm,_,hg1,hg2,rfl,rfl,?_,rfl⟩,fun h=>⟨hm,_,hg1,hg2,rfl,rfl,?_,rfl⟩⟩
  ·rcases hg with rfl|rfl|rfl|rfl
   ·simp[fQ,fY]at h⊢;grind
   ·simp[fQ,fY]at h⊢;grind
   ·simp[fQ,fY]at h⊢;grind
   ·omega
  ·rcases hg with rfl|rfl|rfl|rfl
   ·simp[fQ,fY,h]at h⊢ <;>grind
   ·simp[fQ,fY,h]at h⊢ <;>grind
   ·simp[fQ,fY,h]at h⊢ <;>grind
   ·omega
 ·have hge:=Yr hge;rcases hg with rfl|rfl|rfl|rfl<;>first|rfl|omega
theorem xY:ck Tryz.prog 29 Rp:=
 mo (fz .i64) (fz .i64) (fun _ _=>rfl) fun r m hr hm=>aV (inl:=bn) (ann:=(iz [(29,3,Ra [0,1,4] (fun g=> [(5,.it .i64 (fQ r m g)),(6,.it .i64 g)]) jT 8)])) ak (I2 r m hr hm) (by kernel_rfl)
theorem Nt (k:Key):
 (decide (k.kind=2)=true->
   {kind:=k.kind,oid:=k.oid,count:=k.count,call:=k.call,rights:=gx k.rights 3,
    value:=k.value}=
    jP k)/\
  (decide (k.kind=2)=false->
   (decide (k.kind=3)=true->
     {kind:=k.kind,oid:=k.oid,count:=k.count,call:=k.call,rights:=1,value:=k.value}=
      jP k)/\
    (decide (k.kind=3)=false->
     (decide (k.kind=1)=true->
       (decide (k.kind=1)=true->k=jP k)/\(decide (k.kind=1)=false->void=jP k))/\
      (decide (k.kind=1)=false->
       (decide (k.kind=8)=true->k=jP k)/\(decide (k.kind=8)=false->void=jP k)))):=by
 unfold jP cM;grind
theorem JV:ck Tryz.prog 191 Ps:=
 o0 fy (fun _=>rfl) fun k hk=>aV (inl:=bn) (ann:=aP) (ab xY ak) (Nt k) (by kernel_rfl)
theorem HX (k:Key):
 ((!decide (bD k=0))=true->void=gE k/\2=bD k)/\
   ((!decide (bD k=0))=false->
     ((decide (k.kind=2)||(decide (k.kind=3)||(decide (k.kind=1)||decide (k.kind=8))))=true->
       (decide (k.kind=2)=true->
         true=true/\
          {kind:=k.kind,oid:=k.oid,count:=k.count,call:=k.call,
             rights:=bd BinOp.or IntKind.i64 k.rights 3,value:=k.value}=
           gE k/\
           0=bD k)/\
        (decide (k.kind=2)=false->
         (decide (k.kind=3)=true->
           true=true/\
            {kind:=k.kind,oid:=k.oid,count:=k.count,call:=k.call,
               rights:=bd BinOp.or IntKind.i64 k.rights 1,value:=k.value}=
             gE k/\
             0=bD k)/\
          (decide (k.kind=3)=false->
           (decide (k.kind=1)=true->true=true/\k=gE k/\0=bD k)/\
            (decide (k.kind=1)=false->
             (decide (k.kind=8)=true->true=true/\k=gE k/\0=bD k)/\
              (decide (k.kind=8)=false->False)))))/\
       ((decide (k.kind=2)||(decide (k.kind=3)||(decide (k.kind=1)||decide (k.kind=8))))=false->
         void=gE k/\0=bD k)):=by
 unfold gE bD;cases hok:aT k
 ·simp
 have hr:=g8 hok;have o3:k.kind=2->bd BinOp.or IntKind.i64 k.rights 3=gx k.rights 3:=fun e=>Iv hr.1 (by rw[e]at hr;exact hr.2)
 have o1:k.kind=3->bd BinOp.or IntKind.i64 k.rights 1=1:=fun e=>Dg hr.1 (by rw[e]at hr;exact hr.2)
 unfold jP cM;grind
theorem Aw:ck Tryz.prog 184 IC:=
 o0 fy (fun _=>rfl) fun k hk=>bp (inl:=(fun f=>f==201||f==199)) (ann:=aP) (ab je (ab Qe ak)) aC (HX k) (by kernel_rfl)
end Go.Proofs.YtghpaegglbbocaaGreat
namespace Go.Proofs.YtghpaegglbbocaaGreat
open Go.Sx
set_option maxRecDepth 100000
theorem ME (o:Sx.Obj) (k:Key) (i:Int) (hq:nr k i):
 (0<=i/\i< ↑16)/\
  ((!decide (bd BinOp.and IntKind.i64 k.rights 2=0))=true->
    gE (ae [] (o.slots.at i.toNat))=iC [] o k i)/\
    ((!decide (bd BinOp.and IntKind.i64 k.rights 2=0))=false->
      ae [] (o.slots.at i.toNat)=iC [] o k i):=by
 exact E7 hq
theorem Rz (o:Sx.Obj) (L:List Sx.Obj) (k:Key) (i:Int) (hq:nr k i):
 (0<=i/\i< ↑16)/\
  ((!decide (bd BinOp.and IntKind.i64 k.rights 2=0))=true->
    gE (ae L (o.slots.at i.toNat))=iC L o k i)/\
    ((!decide (bd BinOp.and IntKind.i64 k.rights 2=0))=false->ae L (o.slots.at i.toNat)=iC L o k i):=by
 exact E7 hq
theorem nc:ck Tryz.prog 135 Ty:=
 eO (aJ (Uk WD) (aJ ft cF)) (fun _=>rfl) fun a hq hok=>by
  obtain⟨⟨o,S,k,_⟩,i,_⟩:=a;cases S with
  |none=>exact aV (inl:=bn) (ann:=aP) (ab lf (ab Aw ak)) (ME o k i hq) (by kernel_rfl)
  |some L=>exact aV (inl:=bn) (ann:=aP) (ab lf (ab Aw ak)) (Rz o L k i hq) (by kernel_rfl)
theorem IJ (L:List Sx.Obj) (k:Key) (d:Int) (c:Bool):
 (decide (b9 (aj L)=0)=true->1=ay L k d c)/\
  (decide (b9 (aj L)=0)=false->
   ((!aU L k|| !decide (k.kind=d))=true->190=ay L k d c)/\
     ((!aU L k|| !decide (k.kind=d))=false->
       (c=true->nf 4/\aG IntKind.i64 (k.rights.tmod 4))/\
        ((c&& !decide (k.rights.tmod 4=0))=true->191=ay L k d c)/\
          ((c&& !decide (k.rights.tmod 4=0))=false->0=ay L k d c))):=by
 unfold ay;refine⟨fun h=>?_,fun h=>⟨fun h2=>?_,fun h2=>⟨fun hc=>⟨by unfold nf;omega,?_⟩,fun h3=>?_,fun h3=>?_⟩⟩⟩
 ·rw[Yv (by simpa[b9]using h)]
 ·rw[Yu (by simpa[b9]using h),Yv h2]
 ·have h1:=Int.tmod_lt_of_pos k.rights (show(0:Int)<4 by omega)
  have h2:=Int.lt_tmod_of_pos k.rights (show(0:Int)<4 by omega)
  simp only[aG,bY];omega
 ·rw[Yu (by simpa[b9]using h),Yu (by rw[h2];simp),Yv h3]
 ·rw[Yu (by simpa[b9]using h),Yu (by rw[h2];simp),Yu (by rw[h3];simp)]
theorem od:ck Tryz.prog 176 O9:=
 eO (aJ ju (aJ gR (aJ ft (aJ E3 cF)))) (fun _=>rfl) fun a hq hok=>by
  obtain⟨L,k,d,c,_⟩:=a;exact aV (inl:=bn) (ann:=aP) (ab mw ak) (IJ L k d c) (by kernel_rfl)
theorem QA (L:List Sx.Obj) (k:Key) (i:Int) (hk:bY .i64 k.rights) (hq:nb L k i):
 (0<=k.oid/\k.oid< ↑(aj L))/\
  (0<=i/\i< ↑16)/\
   k.oid.toNat<aj L/\
    (nf 2/\aG IntKind.i64 (k.rights.tdiv 2))/\
     (nf 2/\aG IntKind.i64 ((k.rights.tdiv 2).tmod 2))/\
      (decide ((k.rights.tdiv 2).tmod 2=1)=true->
        jP (ae L ((ah L k.oid.toNat free).slots.at i.toNat))=cL L k i)/\
       (decide ((k.rights.tdiv 2).tmod 2=1)=false->
        ae L ((ah L k.oid.toNat free).slots.at i.toNat)=cL L k i):=by
 obtain⟨h0,h1,h2,h3⟩:=hq;have e2:nf 2:=by unfold nf;omega
 refine⟨⟨h2,h3⟩,⟨h0,by omega⟩,by omega,⟨e2,sT hk (.inr (.inl rfl))⟩,⟨e2,nV _⟩,fun h=>?_,fun h=>?_⟩
 ·unfold cL iC qP;rw[Yv h]
 ·unfold cL iC qP;rw[Yu (by rw[h];simp)]
theorem wJ:ck Tryz.prog 177 T4:=
 eO (aJ ju (aJ gR (aJ ft cF))) (fun _=>rfl) fun a hq hok=>by
  obtain⟨L,k,i,_⟩:=a;exact aV (inl:=bn) (ann:=aP) (ab pC (ab JV ak)) (QA L k i hok.2.1.2.2.2.2.1 hq) (by kernel_rfl)
theorem SQ (L:List Sx.Obj) (k:Key):
 (decide (bD k=0)&&decide (aY k<b9 (aj L)))=cZ L k:=by
 unfold cZ bD b9;cases aT k<;>simp
theorem BT:ck Tryz.prog 42 VO:=
 eO (aJ ju (aJ gR cF)) (fun _=>rfl) fun a hq hok=>by
  obtain⟨L,k,_⟩:=a;exact aV (inl:=bn) (ann:=aP) (ab rm (ab l0 ak)) (SQ L k) (by kernel_rfl)
theorem Pd (L:List Sx.Obj) (i:Int) (o:Sx.Obj) (hq:dS L i):
 Mo (aj L) 856/\
  (0<=i/\i< ↑(aj L))/\
   i.toNat<aj L/\
    ∀(nid:Nat),
     some (V.sa nid)=some (V.sa nid)/\
      some [aI.arr (some tO) 163 (TL.ob (cC L i.toNat o))]=
       some [aI.arr (some tO) 163 (TL.ob (cC L i.toNat o))]:=by
 obtain⟨h0,h1,h2⟩:=hq;exact⟨⟨by simp only[maxLen];omega,by omega⟩,⟨h0,h1⟩,by omega,fun nid=>⟨rfl,rfl⟩⟩
theorem kz:ck Tryz.prog 178 TR:=
 Ot (π:=fun _=> [2]) (aJ ju (aJ ft (aJ RM cF))) (fun _=>by simp) (fun _ _=>rfl) fun a hq hok=>by
  obtain⟨L,i,o,_⟩:=a;exact aV (inl:=bn) (ann:=aP) ak (Pd L i o hq) (by kernel_rfl)
theorem Lo (k:Key) (i:Int):
 true=true/\
  true=true/\
   ((!decide (0<an []))=true->void=aF [] k i/\1=bJ [] k i)/\
     ((!decide (0<an []))=false->
       true=true/\
        ((!(aU [] k&&decide (k.kind=2)))=true->void=aF [] k i/\190=bJ [] k i)/\
          ((!(aU [] k&&decide (k.kind=2)))=false->
            true=true/\
             true=true/\
              ((!(decide (0<=i)&&decide (i<16)))=true->void=aF [] k i/\4=bJ [] k i)/\
                ((!(decide (0<=i)&&decide (i<16)))=false->
                  nr k i/\iC [] (aa [] k) k i=aF [] k i/\0=bJ [] k i))):=by
 have hE:∀e,ay [] k 2 false=e->e≠0->void=aF [] k i/\e=bJ [] k i:=fun e h h0=>by
  unfold aF bJ;rw[h,Yu h0,Yu h0];exact⟨rfl,rfl⟩
 refine⟨rfl,rfl,fun h=>hE _ ?_ (by omega),fun h=>⟨rfl,fun h2=>hE _ ?_ (by omega),fun h2=>⟨rfl,rfl,fun h3=>?_,fun h3=>?_⟩⟩⟩
 ·unfold ay;unfold an at h;rw[Yv (by simp at h;omega)]
 ·unfold ay;unfold an at h;rw[Yu (by simp at h;omega),Yv (by simpa using h2)]
 ·have hA:ay [] k 2 false=0:=by
   unfold ay;unfold an at h;rw[Yu (by simp at h;omega),Yu (by simpa using h2),Yu (by simp)]
  rw[Bool.not_eq_true']at h3;unfold aF bJ jv;rw[hA,Yv rfl,h3];exact⟨rfl,rfl⟩
 ·have hA:ay [] k 2 false=0:=by
   unfold ay;unfold an at h;rw[Yu (by simp at h;omega),Yu (by simpa using h2),Yu (by simp)]
  obtain⟨a1,_,_⟩:=fH hA;obtain⟨b1,b2,b3,b4,_⟩:=dC a1;rw[Bool.not_eq_false']at h3;have h3':0<=i/\i<16:=by simpa using h3
  unfold aF bJ jv;rw[hA,Yv rfl,h3,Yv rfl,Yv rfl,b4];exact⟨⟨h3'.1,h3'.2,b1⟩,rfl,rfl⟩
theorem Qh (L:List Sx.Obj) (k:Key) (i:Int):
 true=true/\
  true=true/\
   ((!decide (0<an L))=true->void=aF L k i/\1=bJ L k i)/\
     ((!decide (0<an L))=false->
       true=true/\
        ((!(aU L k&&decide (k.kind=2)))=true->void=aF L k i/\190=bJ L k i)/\
          ((!(aU L k&&decide (k.kind=2)))=false->
            true=true/\
             true=true/\
              ((!(decide (0<=i)&&decide (i<16)))=true->void=aF L k i/\4=bJ L k i)/\
                ((!(decide (0<=i)&&decide (i<16)))=false->
                  nr k i/\iC L (aa L k) k i=aF L k i/\0=bJ L k i))):=by
 have hE:∀e,ay L k 2 false=e->e≠0->void=aF L k i/\e=bJ L k i:=fun e h h0=>by
  unfold aF bJ;rw[h,Yu h0,Yu h0];exact⟨rfl,rfl⟩
 refine⟨rfl,rfl,fun h=>hE _ ?_ (by omega),fun h=>⟨rfl,fun h2=>hE _ ?_ (by omega),fun h2=>⟨rfl,rfl,fun h3=>?_,fun h3=>?_⟩⟩⟩
 ·unfold ay;unfold an at h;rw[Yv (by simp at h;omega)]
 ·unfold ay;unfold an at h;rw[Yu (by simp at h;omega),Yv (by simpa using h2)]
 ·have hA:ay L k 2 false=0:=by
   unfold ay;unfold an at h;rw[Yu (by simp at h;omega),Yu (by simpa using h2),Yu (by simp)]
  rw[Bool.not_eq_true']at h3;unfold aF bJ jv;rw[hA,Yv rfl,h3];exact⟨rfl,rfl⟩
 ·have hA:ay L k 2 false=0:=by
   unfold ay;unfold an at h;rw[Yu (by simp at h;omega),Yu (by simpa using h2),Yu (by simp)]
  obtain⟨a1,_,_⟩:=fH hA;obtain⟨b1,b2,b3,b4,_⟩:=dC a1;rw[Bool.not_eq_false']at h3;have h3':0<=i/\i<16:=by simpa using h3
  unfold aF bJ jv;rw[hA,Yv rfl,h3,Yv rfl,Yv rfl,b4];exact⟨⟨h3'.1,h3'.2,b1⟩,rfl,rfl⟩
theorem qW:ck Tryz.prog 63 TO:=
 eO (aJ tR (aJ gR (aJ ft cF))) (fun _=>rfl) fun a hq hok=>by
  obtain⟨S,k,i,_⟩:=a;cases S with
  |none=>exact aW (inl:=(fun f=>f==134||f==133)) (ann:=aP) (ab bB (ab bL (ab nc ak))) aC (eH gG) (Lo k i) (by kernel_rfl)
  |some L=>exact aW (inl:=(fun f=>f==134||f==133)) (ann:=aP) (ab bB (ab bL (ab nc ak))) aC (eH gG) (Qh L k i) (by kernel_rfl)
end Go.Proofs.YtghpaegglbbocaaGreat
namespace Go.Proofs.YtghpaegglbbocaaGreat
open Go.Sx
set_option maxRecDepth 100000
theorem NR (k:Key) (i:Int) (v:Key):
 true=true/\
  true=true/\
   ((!decide (0<an []))=true->void=cA [] k i v/\1=bc [] k i v)/\
     ((!decide (0<an []))=false->
       true=true/\
        ((!(aU [] k&&decide (k.kind=2)))=true->void=cA [] k i v/\190=bc [] k i v)/\
          ((!(aU [] k&&decide (k.kind=2)))=false->
            true=true/\
             ((!decide (bd BinOp.and IntKind.i64 k.rights 3=0))=true->
               void=cA [] k i v/\191=bc [] k i v)/\
               ((!decide (bd BinOp.and IntKind.i64 k.rights 3=0))=false->
                 true=true/\
                  ((!(decide (0<=i)&&decide (i<16)))=true->
                      void=cA [] k i v/\4=bc [] k i v)/\
                    ((!(decide (0<=i)&&decide (i<16)))=false->
                      true=true/\
                       ((!(decide (bD v=0)&&(!bg v||decide (cS v<an []))))=true->
                           void=cA [] k i v/\2=bc [] k i v)/\
                         ((!(decide (bD v=0)&&(!bg v||decide (cS v<an []))))=false->
                           nr k i/\
                            true=true/\
                             true=true/\
                              (0<=i/\i< ↑16)/\
                               true=true/\
                                iC [] (aa [] k) k i=cA [] k i v/\0=bc [] k i v))))):=by
 refine⟨rfl,rfl,fun _=>⟨rfl,rfl⟩,fun h=>absurd h (by decide)⟩
theorem Nw (k:Key) (i:Int) (v:Key):
 true=true/\
  true=true/\
   ((!decide (0<an []))=true->void=cA [] k i v/\1=bc [] k i v)/\
     ((!decide (0<an []))=false->
       true=true/\
        ((!(aU [] k&&decide (k.kind=2)))=true->void=cA [] k i v/\190=bc [] k i v)/\
          ((!(aU [] k&&decide (k.kind=2)))=false->
            true=true/\
             ((!decide (bd BinOp.and IntKind.i64 k.rights 3=0))=true->
               void=cA [] k i v/\191=bc [] k i v)/\
               ((!decide (bd BinOp.and IntKind.i64 k.rights 3=0))=false->
                 true=true/\
                  ((!(decide (0<=i)&&decide (i<16)))=true->
                      void=cA [] k i v/\4=bc [] k i v)/\
                    ((!(decide (0<=i)&&decide (i<16)))=false->
                      true=true/\
                       ((!(decide (bD v=0)&&(!bg v||decide (cS v<an []))))=true->
                           void=cA [] k i v/\2=bc [] k i v)/\
                         ((!(decide (bD v=0)&&(!bg v||decide (cS v<an []))))=false->
                           nr k i/\true=true/\true=true/\(0<=i/\i< ↑16)/\true=true/\False))))):=by
 refine⟨rfl,rfl,fun _=>⟨rfl,rfl⟩,fun h=>absurd h (by decide)⟩
theorem RE (L:List Sx.Obj) (k:Key) (i:Int) (v:Key) (hL:aq L):
 true=true/\
  true=true/\
   ((!decide (0<an L))=true->(void=cA L k i v/\1=bc L k i v)/\L=b7 L k i v)/\
     ((!decide (0<an L))=false->
       true=true/\
        ((!(aU L k&&decide (k.kind=2)))=true->
            (void=cA L k i v/\190=bc L k i v)/\L=b7 L k i v)/\
          ((!(aU L k&&decide (k.kind=2)))=false->
            true=true/\
             ((!decide (bd BinOp.and IntKind.i64 k.rights 3=0))=true->
               (void=cA L k i v/\191=bc L k i v)/\L=b7 L k i v)/\
               ((!decide (bd BinOp.and IntKind.i64 k.rights 3=0))=false->
                 true=true/\
                  ((!(decide (0<=i)&&decide (i<16)))=true->
                      (void=cA L k i v/\4=bc L k i v)/\L=b7 L k i v)/\
                    ((!(decide (0<=i)&&decide (i<16)))=false->
                      true=true/\
                       ((!(decide (bD v=0)&&(!bg v||decide (cS v<an L))))=true->
                           (void=cA L k i v/\2=bc L k i v)/\L=b7 L k i v)/\
                         ((!(decide (bD v=0)&&(!bg v||decide (cS v<an L))))=false->
                           nr k i/\
                            true=true/\
                             true=true/\
                              (0<=i/\i< ↑16)/\
                               true=true/\
                                (iC L (aa L k) k i=cA L k i v/\0=bc L k i v)/\
                                 cW L k.oid
                                   {kind:=(aa L k).kind,count:=(aa L k).count,
                                    calls:=(aa L k).calls,
                                    slots:=(aa L k).slots.put i.toNat (ae L v),
                                    bytes:=(aa L k).bytes}=
                                  b7 L k i v))))):=by
 have fin:∀e,bc L k i v=e->e≠0->(void=cA L k i v/\e=bc L k i v)/\L=b7 L k i v:=fun e h h0=>by
  unfold cA b7;rw[h,Yu h0,Yu h0];exact⟨⟨rfl,rfl⟩,rfl⟩
 have bad:∀e,ay L k 2 true=e->e≠0->bc L k i v=e:=fun e h h0=>by unfold bc;rw[h,Yu h0]
 refine⟨rfl,rfl,fun h=>fin _ (bad _ (K6 h) (by omega)) (by omega),fun h=>⟨rfl,fun h2=>fin _ (bad _ (HI h h2) (by omega)) (by omega),fun h2=>⟨rfl,fun h3=>fin _ (bad _ (Tu h h2 h3) (by omega)) (by omega),fun h3=>⟨rfl,fun h4=>fin 4 ?_ (by omega),fun h4=>⟨rfl,fun h5=>fin 2 ?_ (by omega),fun h5=>?_⟩⟩⟩⟩⟩
 ·rw[Bool.not_eq_true']at h4;unfold bc jv;rw[GM h h2 h3,Yv rfl,h4];rfl
 ·rw[Bool.not_eq_false']at h4;have hm:cZ L v=false:=by rw[<-A2];rw[Bool.not_eq_true']at h5;exact h5
  unfold bc jv;rw[GM h h2 h3,Yv rfl,h4,hm];rfl
 ·rw[Bool.not_eq_false']at h4;have h4':0<=i/\i<16:=by simpa using h4
  have hm:cZ L v=true:=by rw[<-A2];rw[Bool.not_eq_false']at h5;exact h5
  have hE:bc L k i v=0:=by
   unfold bc jv;rw[GM h h2 h3,Yv rfl,h4,hm];rfl
  obtain⟨a1,a2⟩:=mi h2;obtain⟨b1,b2,b3,b4,_⟩:=dC a1;have hp:=(nY hL a1 a2 (C1 (v:=v) hL a1 a2 h4'.1 h4'.2)).1;unfold cA b7;rw[hE,Yv rfl,Yv rfl,<-hp,b4];exact⟨⟨h4'.1,h4'.2,b1⟩,rfl,rfl,⟨h4'.1,by omega⟩,rfl,⟨rfl,rfl⟩,rfl⟩
theorem Ox (L:List Sx.Obj) (k:Key) (i:Int) (v:Key) (hL:aq L):ai Tryz.prog 66 [.lp 0 0,.key k,.it .i64 i,.key v] [.store tS eS L] (B8 (.tp [.key (cA L k i v),.it .i64 (bc L k i v)]) (b7 L k i v)) (fun _ _=>False):=
 aW (inl:=(fun f=>f==134||f==133||f==136||f==137)) (ann:=aP) (ab bB (ab bL (ab nc (ab eY (ab je (ab lf ak)))))) (aD dO aC) (eH gG) (RE L k i v hL) (by kernel_rfl)
theorem Fe:lG Tryz.prog 66 Up:=
 mg (m:=fun x=> [.key x.1,.it .i64 x.2.1,.key x.2.2]) Kr (fun _=>rfl) (fun _ _=>rfl) (fun x=>aW (inl:=(fun f=>f==134||f==133||f==136||f==137)) (ann:=aP) (ab bB (ab bL (ab nc (ab eY (ab je (ab lf ak)))))) (aD dO aC) (eH gG) (NR x.1 x.2.1 x.2.2) (by kernel_rfl)) (fun x=>aW (inl:=(fun f=>f==134||f==133||f==136||f==137)) (ann:=aP) (ab bB (ab bL (ab nc (ab eY (ab je (ab lf ak)))))) (aD dO aC) (eH gG) (Nw x.1 x.2.1 x.2.2) (by kernel_rfl)) fun L x hL _ _=>Ox L x.1 x.2.1 x.2.2 hL
theorem Kh (k:Key):
 true=true/\
  true=true/\
   ((!decide (0<an []))=true->1=ay [] k 2 true)/\
     ((!decide (0<an []))=false->
       true=true/\
        ((!(aU [] k&&decide (k.kind=2)))=true->190=ay [] k 2 true)/\
          ((!(aU [] k&&decide (k.kind=2)))=false->
            true=true/\
             ((!decide (bd BinOp.and IntKind.i64 k.rights 3=0))=true->191=ay [] k 2 true)/\
               ((!decide (bd BinOp.and IntKind.i64 k.rights 3=0))=false->
                 true=true/\true=true/\true=true/\0=ay [] k 2 true))):=by
 refine⟨rfl,rfl,fun _=>rfl,fun h=>absurd h (by decide)⟩
theorem Jq (k:Key):
 true=true/\
  true=true/\
   ((!decide (0<an []))=true->1=ay [] k 2 true)/\
     ((!decide (0<an []))=false->
       true=true/\
        ((!(aU [] k&&decide (k.kind=2)))=true->190=ay [] k 2 true)/\
          ((!(aU [] k&&decide (k.kind=2)))=false->
            true=true/\
             ((!decide (bd BinOp.and IntKind.i64 k.rights 3=0))=true->191=ay [] k 2 true)/\
               ((!decide (bd BinOp.and IntKind.i64 k.rights 3=0))=false->
                 true=true/\true=true/\true=true/\False))):=by
 refine⟨rfl,rfl,fun _=>rfl,fun h=>absurd h (by decide)⟩
theorem Oq (L:List Sx.Obj) (k:Key) (hL:aq L):
 true=true/\
  true=true/\
   ((!decide (0<an L))=true->1=ay L k 2 true/\L=eT L k)/\
     ((!decide (0<an L))=false->
       true=true/\
        ((!(aU L k&&decide (k.kind=2)))=true->190=ay L k 2 true/\L=eT L k)/\
          ((!(aU L k&&decide (k.kind=2)))=false->
            true=true/\
             ((!decide (bd BinOp.and IntKind.i64 k.rights 3=0))=true->
               191=ay L k 2 true/\L=eT L k)/\
               ((!decide (bd BinOp.and IntKind.i64 k.rights 3=0))=false->
                 true=true/\
                  true=true/\
                   true=true/\
                    0=ay L k 2 true/\
                     cW L k.oid
                       {kind:=(aa L k).kind,count:=(aa L k).count,calls:=(aa L k).calls,
                        slots:=fX,bytes:=(aa L k).bytes}=
                      eT L k))):=by
 have fin:∀e,ay L k 2 true=e->e≠0->e=ay L k 2 true/\L=eT L k:=fun e h h0=>by
  unfold eT;rw[h,Yu h0];exact⟨rfl,rfl⟩
 refine⟨rfl,rfl,fun h=>fin _ (K6 h) (by omega),fun h=>⟨rfl,fun h2=>fin _ (HI h h2) (by omega),fun h2=>⟨rfl,fun h3=>fin _ (Tu h h2 h3) (by omega),fun h3=>⟨rfl,rfl,rfl,?_⟩⟩⟩⟩
 obtain⟨a1,a2⟩:=mi h2;have hp:=(nY hL a1 a2 (Gy (by omega))).1
 unfold eT;rw[GM h h2 h3,Yv rfl,<-hp];exact⟨rfl,rfl⟩
theorem Of (L:List Sx.Obj) (k:Key) (hL:aq L):ai Tryz.prog 69 [.lp 0 0,.key k] [.store tS eS L] (B8 (.it .i64 (ay L k 2 true)) (eT L k)) (fun _ _=>False):=
 aW (inl:=(fun f=>f==134||f==133||f==136||f==138)) (ann:=aP) (ab bB (ab bL ak)) (aD dO aC) (eH gG) (Oq L k hL) (by kernel_rfl)
theorem Ry:lG Tryz.prog 69 S0:=
 mg (m:=fun x=> [.key x]) K5 (fun _=>rfl) (fun _ _=>rfl) (fun x=>aW (inl:=(fun f=>f==134||f==133||f==136||f==138)) (ann:=aP) (ab bB (ab bL ak)) (aD dO aC) (eH gG) (Kh x) (by kernel_rfl)) (fun x=>aW (inl:=(fun f=>f==134||f==133||f==136||f==138)) (ann:=aP) (ab bB (ab bL ak)) (aD dO aC) (eH gG) (Jq x) (by kernel_rfl)) fun L x hL _ _=>Of L x hL
theorem Jl (t f:Key):
 true=true/\
  true=true/\
   ((!decide (0<an []))=true->1=bG [] t f)/\
     ((!decide (0<an []))=false->
       true=true/\
        ((!(aU [] t&&decide (t.kind=2)))=true->190=bG [] t f)/\
          ((!(aU [] t&&decide (t.kind=2)))=false->
            true=true/\
             ((!decide (bd BinOp.and IntKind.i64 t.rights 3=0))=true->191=bG [] t f)/\
               ((!decide (bd BinOp.and IntKind.i64 t.rights 3=0))=false->
                 true=true/\
                  true=true/\
                   ((!decide (0<an []))=true->1=bG [] t f)/\
                     ((!decide (0<an []))=false->
                       true=true/\
                        ((!(aU [] f&&decide (f.kind=2)))=true->190=bG [] t f)/\
                          ((!(aU [] f&&decide (f.kind=2)))=false->
                            true=true/\true=true/\true=true/\False))))):=by
 refine⟨rfl,rfl,fun _=>rfl,fun h=>absurd h (by decide)⟩
theorem Ik (t f:Key):
 true=true/\
  true=true/\
   ((!decide (0<an []))=true->1=bG [] t f)/\
     ((!decide (0<an []))=false->
       true=true/\
        ((!(aU [] t&&decide (t.kind=2)))=true->190=bG [] t f)/\
          ((!(aU [] t&&decide (t.kind=2)))=false->
            true=true/\
             ((!decide (bd BinOp.and IntKind.i64 t.rights 3=0))=true->191=bG [] t f)/\
               ((!decide (bd BinOp.and IntKind.i64 t.rights 3=0))=false->
                 true=true/\
                  true=true/\
                   ((!decide (0<an []))=true->1=bG [] t f)/\
                     ((!decide (0<an []))=false->
                       true=true/\
                        ((!(aU [] f&&decide (f.kind=2)))=true->190=bG [] t f)/\
                          ((!(aU [] f&&decide (f.kind=2)))=false->
                            true=true/\true=true/\true=true/\False))))):=by
 refine⟨rfl,rfl,fun _=>rfl,fun h=>absurd h (by decide)⟩
theorem Qw (L:List Sx.Obj) (t f:Key) (hL:aq L):
 true=true/\
  true=true/\
   ((!decide (0<an L))=true->1=bG L t f/\L=dZ L t f)/\
     ((!decide (0<an L))=false->
       true=true/\
        ((!(aU L t&&decide (t.kind=2)))=true->190=bG L t f/\L=dZ L t f)/\
          ((!(aU L t&&decide (t.kind=2)))=false->
            true=true/\
             ((!decide (bd BinOp.and IntKind.i64 t.rights 3=0))=true->
               191=bG L t f/\L=dZ L t f)/\
               ((!decide (bd BinOp.and IntKind.i64 t.rights 3=0))=false->
                 true=true/\
                  true=true/\
                   ((!decide (0<an L))=true->1=bG L t f/\L=dZ L t f)/\
                     ((!decide (0<an L))=false->
                       true=true/\
                        ((!(aU L f&&decide (f.kind=2)))=true->
                            190=bG L t f/\L=dZ L t f)/\
                          ((!(aU L f&&decide (f.kind=2)))=false->
                            true=true/\
                             true=true/\
                              true=true/\
                               (∃g,
                                 km g/\
                                  0=g/\
                                   L=L/\
                                    t=t/\
                                     f=f/\
                                      t=t/\
                                       aa L t=aa L t/\
                                        t=t/\
                                         aa L t=aa L t/\
                                          aa L t=aa L t/\
                                           t=t/\
                                            f=f/\
                                             aa L f=aa L f/\
                                              f=f/\
                                               aa L f=aa L f/\
                                                aa L f=aa L f/\
                                                 f=f/\
                                                  aa L t=
                                                    eo (aa L t)
                                                     (cX L t f g)/\
                                                   t=t)/\
                                ∀(g:Int),
                                 km g->
                                  (decide (g<16)=true->
                                    nr f g/\
                                     (0<=g/\g< ↑16)/\
                                      aG IntKind.i64 (g+1)/\
                                       ∃g',
                                        km g'/\
                                         nA g'<nA g/\
                                          g+1=g'/\
                                           L=L/\
                                            t=t/\
                                             f=f/\
                                              t=t/\
                                               aa L t=aa L t/\
                                                t=t/\
                                                 aa L t=aa L t/\
                                                  aa L t=aa L t/\
                                                   t=t/\
                                                    f=f/\
                                                     aa L f=aa L f/\
                                                      f=f/\
                                                       aa L f=aa L f/\
                                                        aa L f=aa L f/\
                                                         f=f/\
                                                          {
                                                             kind:=
                                                              (eo
                                                                (aa L t)
                                                                (cX L t
                                                                 f
                                                                 g)).kind,
                                                             count:=
                                                              (eo
                                                                (aa L t)
                                                                (cX L t
                                                                 f
                                                                 g)).count,
                                                             calls:=
                                                              (eo
                                                                (aa L t)
                                                                (cX L t
                                                                 f
                                                                 g)).calls,
                                                             slots:=
                                                              (eo
                                                                 (aa
                                                                  L t)
                                                                 (cX
                                                                  L t f
                                                                  g)).slots.put
                                                               g.toNat
                                                               (iC L
                                                                (aa L f)
                                                                f g),
                                                             bytes:=
                                                              (eo
                                                                (aa L t)
                                                                (cX L t
                                                                 f
                                                                 g)).bytes}=
                                                            eo (aa L t)
                                                             (cX L t f
                                                              g')/\
                                                           t=t)/\
                                   (decide (g<16)=false->
                                    true=true/\
                                     0=bG L t f/\
                                      cW L t.oid (eo (aa L t) (cX L t f g))=
                                       dZ L t f)))))):=by
 have fin:∀e,bG L t f=e->e≠0->e=bG L t f/\L=dZ L t f:=fun e h h0=>by
  unfold dZ;rw[h,Yu h0];exact⟨rfl,rfl⟩
 have bad:∀e,ay L t 2 true=e->e≠0->bG L t f=e:=fun e h h0=>by unfold bG;rw[h,Yu h0]
 refine⟨rfl,rfl,fun h=>fin _ (bad _ (K6 h) (by omega)) (by omega),fun h=>⟨rfl,fun h2=>fin _ (bad _ (HI h h2) (by omega)) (by omega),fun h2=>⟨rfl,fun h3=>fin _ (bad _ (Tu h h2 h3) (by omega)) (by omega),fun h3=>⟨rfl,rfl,fun h4=>?_,fun h4=>⟨rfl,fun h5=>fin 190 ?_ (by omega),fun h5=>⟨rfl,rfl,rfl,?_,fun g hg=>⟨fun hlt=>?_,fun hge=>?_⟩⟩⟩⟩⟩⟩⟩
 ·rw[h]at h4;simp at h4
 ·unfold bG;rw[GM h h2 h3,Yv rfl,HI h h5]
 ·obtain⟨a1,a2⟩:=mi h2;refine⟨0,⟨by omega,by omega⟩,?_⟩
  have:=Dq (f:=f) (dC a1).2.2.2.1;repeat' apply And.intro
  all_goals first|rfl|exact this
 ·obtain⟨g0,g1⟩:=hg;have hlt:=Ys hlt;obtain⟨a1,a2⟩:=mi h5;have hs:=Cm (t:=t) g0 (dC a1).2.2.2.1 (aa L t) fX;refine⟨⟨g0,by omega,(dC a1).1⟩,⟨g0,by omega⟩,by simp only[aG,bY];omega,g+1,⟨by omega,by omega⟩,by unfold nA;omega,?_⟩
  repeat' apply And.intro
  all_goals first|rfl|exact hs
 ·obtain⟨g0,g1⟩:=hg;have hge:=Yr hge;have:g=16:=by omega
  subst this;obtain⟨a1,a2⟩:=mi h2;have hE:bG L t f=0:=by unfold bG;rw[GM h h2 h3,Yv rfl,Fg h h5]
  have hp:=(nY hL a1 a2 (yU (f:=f) hL a1 a2 16 (by omega))).1
  unfold dZ;rw[hE,Yv rfl];exact⟨rfl,rfl,hp⟩
theorem O7 (L:List Sx.Obj) (t f:Key) (hL:aq L):ai Tryz.prog 71 [.lp 0 0,.key t,.key f] [.store tS eS L] (B8 (.it .i64 (bG L t f)) (dZ L t f)) (fun _ _=>False):=
 aW (inl:=(fun f=>f==134||f==133||f==136||f==139)) (ann:=(iz [(139,1,RK [0,1,2] (fun g=> [(4,.it .i64 g)]) 0 (Yc L t f) km nA)])) (ab bB (ab bL (ab nc ak))) (aD dO aC) (eH gG) (Qw L t f hL) (by kernel_rfl)
theorem Qu:lG Tryz.prog 71 UL:=
 mg (m:=fun x=> [.key x.1,.key x.2]) FW (fun _=>rfl) (fun _ _=>rfl) (fun x=>aW (inl:=(fun f=>f==134||f==133||f==136||f==139)) (ann:=aP) (ab bB (ab bL (ab nc ak))) (aD dO aC) (eH gG) (Jl x.1 x.2) (by kernel_rfl)) (fun x=>aW (inl:=(fun f=>f==134||f==133||f==136||f==139)) (ann:=aP) (ab bB (ab bL (ab nc ak))) (aD dO aC) (eH gG) (Ik x.1 x.2) (by kernel_rfl)) fun L x hL _ _=>O7 L x.1 x.2 hL
end Go.Proofs.YtghpaegglbbocaaGreat
