import Derived.Test.YtghpaegglbbocaaGreatKS
import Derived.Test.YtghpaegglbbocaaGreatCV
set_option linter.unusedSimpArgs false
set_option linter.unusedVariables false
namespace Go.Proofs.YtghpaegglbbocaaGreat
open Go.Sx
set_option maxRecDepth 100000
theorem KU (k:Key):
 ((bB []|| !decide (bD k=0))=true->void=ae [] k)/\
   ((bB []|| !decide (bD k=0))=false->
     ((bf k&& !aU [] k)=true->void=ae [] k)/\((bf k&& !aU [] k)=false->k=ae [] k)):=by
 exact CG [] k
theorem IG (L:List Sx.Obj) (k:Key):
 ((bB L|| !decide (bD k=0))=true->void=ae L k)/\
   ((bB L|| !decide (bD k=0))=false->
     ((bf k&& !aU L k)=true->void=ae L k)/\((bf k&& !aU L k)=false->k=ae L k)):=by
 exact CG L k
theorem lf:ck Tryz.prog 22 TP:=
 wL fz (fun _ _=>rfl) (fun x _=>aV (inl:=bp) (ann:=aP) (ab oG (ab jj (ab eY (ab bL ak)))) (KU x) (by kernel_rfl)) (fun L x _ _ _=>aV (inl:=bp) (ann:=aP) (ab oG (ab jj (ab eY (ab bL ak)))) (IG L x) (by kernel_rfl)) fun _=>rfl
theorem KB (l:List Sx.Obj) (k:Key):
 ((decide (b9 (aj l)=0)|| !decide (bD k=0)||decide (0<=aY k)&& !aU l k)=true->
   void=ae l k)/\
   ((decide (b9 (aj l)=0)|| !decide (bD k=0)||decide (0<=aY k)&& !aU l k)=false->
     k=ae l k):=by
 exact Hn l k
theorem qk:ck Tryz.prog 45 Rq:=FM fz (fun _ _=>rfl) (fun l k _ _ _=>aV (inl:=bp) (ann:=aP) (ab rf (ab lZ (ab mD ak))) (KB l k) (by kernel_rfl)) fun _=>rfl
end Go.Proofs.YtghpaegglbbocaaGreat
namespace Go.Sx
def W7 (nid:Nat):V:= .mp nid
def Xv (nid:Nat):List aI:= [.mp .i64 [2,3,1,8] [.fn 201 [.lp (nid+1) 0],.fn 201 [.lp (nid+1+1) 0],.fn 199 [],.fn 199 []],
 .blk 23 (.ci .i64 3),.blk 23 (.ci .i64 1)]
def tN:Nat:=166
def Yd (L:List Obj) (t f:Key) (g:Int):aI:= .blk tN (.ag [.ob (eo (aa L t) (cX L t f g)),.lp 0 0,.key t])
end Go.Sx
namespace Go.Proofs.YtghpaegglbbocaaGreat
open Go.Sx
set_option maxRecDepth 100000
theorem QJ:
 true=true/\
 true=true/\
  ∀(nid:Nat),some (W7 nid)=some (W7 nid)/\some (Xv nid)=some (Xv nid):=by
 exact⟨rfl,rfl,fun nid=>⟨rfl,rfl⟩⟩
theorem O5:ck Tryz.prog 193 (DC W7 Xv):=xC (π:= [0,1,2]) (by decide) (fun _=>rfl) (bn (inl:=(fun f=>f==200)) (ann:=aP) ak aC QJ (by kernel_rfl))
theorem IA (r m:Int) (hr:bY .i64 r) (hm0:bY .i64 m):
 (∃g,jQ g/\r=r/\m=m/\0=fO r m g/\1=g)/\
  ∀(g:Int),
   jQ g->
    (decide (g<=4)=true->
      (ng g/\aG IntKind.i64 (r.tdiv g))/\
       (ng 2/\aG IntKind.i64 ((r.tdiv g).tmod 2))/\
        ((!decide ((r.tdiv g).tmod 2=1))=true->ng g/\aG IntKind.i64 (m.tdiv g))/\
          ((!decide ((r.tdiv g).tmod 2=1))=true->ng 2/\aG IntKind.i64 ((m.tdiv g).tmod 2))/\
            ((decide ((r.tdiv g).tmod 2=1)||decide ((m.tdiv g).tmod 2=1))=true->
              aG IntKind.i64 (fO r m g+g)/\
               aG IntKind.i64 (g*2)/\
                ∃g',
                 jQ g'/\
                  (8-g').toNat<(8-g).toNat/\
                   r=r/\m=m/\fO r m g+g=fO r m g'/\g*2=g')/\
              ((decide ((r.tdiv g).tmod 2=1)||decide ((m.tdiv g).tmod 2=1))=false->
                aG IntKind.i64 (g*2)/\
                 ∃g',
                  jQ g'/\
                   (8-g').toNat<(8-g).toNat/\
                    r=r/\m=m/\fO r m g=fO r m g'/\g*2=g'))/\
     (decide (g<=4)=false->fO r m g=gw r m):=by
 refine⟨⟨1,.inl rfl,rfl,rfl,by simp[fO],rfl⟩,fun g hg=>⟨fun hlt=>?_,fun hge=>?_⟩⟩
 ·have hlt:=Yn hlt;have hne:ng g:=by unfold ng;rcases hg with rfl|rfl|rfl|rfl<;>omega
  have h2:ng 2:=by unfold ng;omega
  have hs:=CO (r:=r) (m:=m) (g:=g)
  have hn:∃g',jQ g'/\(8-g').toNat<(8-g).toNat/\g*2=g':=by
   rcases hg with rfl|rfl|rfl|rfl
   ·exact⟨2,.inr (.inl rfl),by omega,rfl⟩
   ·exact⟨4,.inr (.inr (.inl rfl)),by omega,rfl⟩
   ·exact⟨8,.inr (.inr (.inr rfl)),by omega,rfl⟩
   ·omega
  obtain⟨g',hg1,hg2,rfl⟩:=hn;have hm:aG IntKind.i64 (g*2):=by simp only[aG,bY];rcases hg with rfl|rfl|rfl|rfl<;>omega
  refine⟨⟨hne,s9 hr hg⟩,⟨h2,nZ _⟩,fun _=>⟨hne,s9 hm0 hg⟩,fun _=>⟨h2,nZ _⟩,fun h=>⟨by simp only[aG,bY];omega,hm,_,hg1,hg2,rfl,rfl,?_,rfl⟩,fun h=>⟨hm,_,hg1,hg2,rfl,rfl,?_,rfl⟩⟩
  ·rcases hg with rfl|rfl|rfl|rfl
   ·simp[fO,fW]at h⊢;grind
   ·simp[fO,fW]at h⊢;grind
   ·simp[fO,fW]at h⊢;grind
   ·omega
  ·rcases hg with rfl|rfl|rfl|rfl
   ·simp[fO,fW,h]at h⊢ <;>grind
   ·simp[fO,fW,h]at h⊢ <;>grind
   ·simp[fO,fW,h]at h⊢ <;>grind
   ·omega
 ·have hge:=Ym hge;rcases hg with rfl|rfl|rfl|rfl<;>first|rfl|omega
theorem xW:ck Tryz.prog 29 Re:=
 mf (fy .i64) (fy .i64) (fun _ _=>rfl) fun r m hr hm=>aV (inl:=bp) (ann:=(iy [(29,3,Og [0,1,4] (fun g=> [(5,.it .i64 (fO r m g)),(6,.it .i64 g)]) jQ 8)])) ak (IA r m hr hm) (by kernel_rfl)
theorem L6 (k:Key):
 (decide (k.kind=2)=true->
   {kind:=k.kind,oid:=k.oid,count:=k.count,call:=k.call,rights:=gw k.rights 3,
    value:=k.value}=
    jO k)/\
  (decide (k.kind=2)=false->
   (decide (k.kind=3)=true->
     {kind:=k.kind,oid:=k.oid,count:=k.count,call:=k.call,rights:=1,value:=k.value}=
      jO k)/\
    (decide (k.kind=3)=false->
     (decide (k.kind=1)=true->
       (decide (k.kind=1)=true->k=jO k)/\(decide (k.kind=1)=false->void=jO k))/\
      (decide (k.kind=1)=false->
       (decide (k.kind=8)=true->k=jO k)/\(decide (k.kind=8)=false->void=jO k)))):=by
 unfold jO cJ;grind
theorem IV:ck Tryz.prog 191 Qv:=
 oI fz (fun _=>rfl) fun k hk=>aV (inl:=bp) (ann:=aP) (ab xW ak) (L6 k) (by kernel_rfl)
theorem GG (k:Key):
 ((!decide (bD k=0))=true->void=gC k/\2=bD k)/\
   ((!decide (bD k=0))=false->
     ((decide (k.kind=2)||(decide (k.kind=3)||(decide (k.kind=1)||decide (k.kind=8))))=true->
       (decide (k.kind=2)=true->
         true=true/\
          {kind:=k.kind,oid:=k.oid,count:=k.count,call:=k.call,
             rights:=bc BinOp.or IntKind.i64 k.rights 3,value:=k.value}=
           gC k/\
           0=bD k)/\
        (decide (k.kind=2)=false->
         (decide (k.kind=3)=true->
           true=true/\
            {kind:=k.kind,oid:=k.oid,count:=k.count,call:=k.call,
               rights:=bc BinOp.or IntKind.i64 k.rights 1,value:=k.value}=
             gC k/\
             0=bD k)/\
          (decide (k.kind=3)=false->
           (decide (k.kind=1)=true->true=true/\k=gC k/\0=bD k)/\
            (decide (k.kind=1)=false->
             (decide (k.kind=8)=true->true=true/\k=gC k/\0=bD k)/\
              (decide (k.kind=8)=false->False)))))/\
       ((decide (k.kind=2)||(decide (k.kind=3)||(decide (k.kind=1)||decide (k.kind=8))))=false->
         void=gC k/\0=bD k)):=by
 unfold gC bD;cases hok:aT k
 ·simp
 have hr:=gS hok;have o3:k.kind=2->bc BinOp.or IntKind.i64 k.rights 3=gw k.rights 3:=fun e=>Lo hr.1 (by rw[e]at hr;exact hr.2)
 have o1:k.kind=3->bc BinOp.or IntKind.i64 k.rights 1=1:=fun e=>Dj hr.1 (by rw[e]at hr;exact hr.2)
 unfold jO cJ;grind
theorem Aa:ck Tryz.prog 184 Nw:=
 oI fz (fun _=>rfl) fun k hk=>bn (inl:=(fun f=>f==201||f==199)) (ann:=aP) (ab jj (ab O5 ak)) aC (GG k) (by kernel_rfl)
end Go.Proofs.YtghpaegglbbocaaGreat
namespace Go.Proofs.YtghpaegglbbocaaGreat
open Go.Sx
set_option maxRecDepth 100000
theorem Lx (o:Sx.Obj) (k:Key) (i:Int) (hq:nH k i):
 (0<=i/\i< ↑16)/\
  ((!decide (bc BinOp.and IntKind.i64 k.rights 2=0))=true->
    gC (ae [] (o.slots.at i.toNat))=iz [] o k i)/\
    ((!decide (bc BinOp.and IntKind.i64 k.rights 2=0))=false->
      ae [] (o.slots.at i.toNat)=iz [] o k i):=by
 exact E5 hq
theorem OH (o:Sx.Obj) (L:List Sx.Obj) (k:Key) (i:Int) (hq:nH k i):
 (0<=i/\i< ↑16)/\
  ((!decide (bc BinOp.and IntKind.i64 k.rights 2=0))=true->
    gC (ae L (o.slots.at i.toNat))=iz L o k i)/\
    ((!decide (bc BinOp.and IntKind.i64 k.rights 2=0))=false->ae L (o.slots.at i.toNat)=iz L o k i):=by
 exact E5 hq
theorem nh:ck Tryz.prog 135 TY:=
 eP (aJ (Tx Wd) (aJ ft cF)) (fun _=>rfl) fun a hq hok=>by
  obtain⟨⟨o,S,k,_⟩,i,_⟩:=a;cases S with
  |none=>exact aV (inl:=bp) (ann:=aP) (ab lf (ab Aa ak)) (Lx o k i hq) (by kernel_rfl)
  |some L=>exact aV (inl:=bp) (ann:=aP) (ab lf (ab Aa ak)) (OH o L k i hq) (by kernel_rfl)
theorem M4 (L:List Sx.Obj) (k:Key) (d:Int) (c:Bool):
 (decide (b9 (aj L)=0)=true->1=ay L k d c)/\
  (decide (b9 (aj L)=0)=false->
   ((!aU L k|| !decide (k.kind=d))=true->190=ay L k d c)/\
     ((!aU L k|| !decide (k.kind=d))=false->
       (c=true->ng 4/\aG IntKind.i64 (k.rights.tmod 4))/\
        ((c&& !decide (k.rights.tmod 4=0))=true->191=ay L k d c)/\
          ((c&& !decide (k.rights.tmod 4=0))=false->0=ay L k d c))):=by
 unfold ay;refine⟨fun h=>?_,fun h=>⟨fun h2=>?_,fun h2=>⟨fun hc=>⟨by unfold ng;omega,?_⟩,fun h3=>?_,fun h3=>?_⟩⟩⟩
 ·rw[Yq (by simpa[b9]using h)]
 ·rw[Yp (by simpa[b9]using h),Yq h2]
 ·have h1:=Int.tmod_lt_of_pos k.rights (show(0:Int)<4 by omega)
  have h2:=Int.lt_tmod_of_pos k.rights (show(0:Int)<4 by omega)
  simp only[aG,bY];omega
 ·rw[Yp (by simpa[b9]using h),Yp (by rw[h2];simp),Yq h3]
 ·rw[Yp (by simpa[b9]using h),Yp (by rw[h2];simp),Yp (by rw[h3];simp)]
theorem oi:ck Tryz.prog 176 Rd:=
 eP (aJ js (aJ gQ (aJ ft (aJ E6 cF)))) (fun _=>rfl) fun a hq hok=>by
  obtain⟨L,k,d,c,_⟩:=a;exact aV (inl:=bp) (ann:=aP) (ab mD ak) (M4 L k d c) (by kernel_rfl)
theorem PN (L:List Sx.Obj) (k:Key) (i:Int) (hk:bY .i64 k.rights) (hq:na L k i):
 (0<=k.oid/\k.oid< ↑(aj L))/\
  (0<=i/\i< ↑16)/\
   k.oid.toNat<aj L/\
    (ng 2/\aG IntKind.i64 (k.rights.tdiv 2))/\
     (ng 2/\aG IntKind.i64 ((k.rights.tdiv 2).tmod 2))/\
      (decide ((k.rights.tdiv 2).tmod 2=1)=true->
        jO (ae L ((ah L k.oid.toNat free).slots.at i.toNat))=cN L k i)/\
       (decide ((k.rights.tdiv 2).tmod 2=1)=false->
        ae L ((ah L k.oid.toNat free).slots.at i.toNat)=cN L k i):=by
 obtain⟨h0,h1,h2,h3⟩:=hq;have e2:ng 2:=by unfold ng;omega
 refine⟨⟨h2,h3⟩,⟨h0,by omega⟩,by omega,⟨e2,s9 hk (.inr (.inl rfl))⟩,⟨e2,nZ _⟩,fun h=>?_,fun h=>?_⟩
 ·unfold cN iz re;rw[Yq h]
 ·unfold cN iz re;rw[Yp (by rw[h];simp)]
theorem wS:ck Tryz.prog 177 T4:=
 eP (aJ js (aJ gQ (aJ ft cF))) (fun _=>rfl) fun a hq hok=>by
  obtain⟨L,k,i,_⟩:=a;exact aV (inl:=bp) (ann:=aP) (ab qk (ab IV ak)) (PN L k i hok.2.1.2.2.2.2.1 hq) (by kernel_rfl)
theorem Si (L:List Sx.Obj) (k:Key):
 (decide (bD k=0)&&decide (aY k<b9 (aj L)))=cZ L k:=by
 unfold cZ bD b9;cases aT k<;>simp
theorem Br:ck Tryz.prog 42 U6:=
 eP (aJ js (aJ gQ cF)) (fun _=>rfl) fun a hq hok=>by
  obtain⟨L,k,_⟩:=a;exact aV (inl:=bp) (ann:=aP) (ab rf (ab lZ ak)) (Si L k) (by kernel_rfl)
theorem Pe (L:List Sx.Obj) (i:Int) (o:Sx.Obj) (hq:dL L i):
 Nb (aj L) 856/\
  (0<=i/\i< ↑(aj L))/\
   i.toNat<aj L/\
    ∀(nid:Nat),
     some (V.sa nid)=some (V.sa nid)/\
      some [aI.arr (some tO) 163 (TL.ob (cC L i.toNat o))]=
       some [aI.arr (some tO) 163 (TL.ob (cC L i.toNat o))]:=by
 obtain⟨h0,h1,h2⟩:=hq;exact⟨⟨by simp only[maxLen];omega,by omega⟩,⟨h0,h1⟩,by omega,fun nid=>⟨rfl,rfl⟩⟩
theorem kb:ck Tryz.prog 178 Uy:=
 RD (π:=fun _=> [2]) (aJ js (aJ ft (aJ R1 cF))) (fun _=>by simp) (fun _ _=>rfl) fun a hq hok=>by
  obtain⟨L,i,o,_⟩:=a;exact aV (inl:=bp) (ann:=aP) ak (Pe L i o hq) (by kernel_rfl)
theorem IP (k:Key) (i:Int):
 true=true/\
  true=true/\
   ((!decide (0<an []))=true->void=aF [] k i/\1=bJ [] k i)/\
     ((!decide (0<an []))=false->
       true=true/\
        ((!(aU [] k&&decide (k.kind=2)))=true->void=aF [] k i/\190=bJ [] k i)/\
          ((!(aU [] k&&decide (k.kind=2)))=false->
            true=true/\
             true=true/\
              ((!(decide (0<=i)&&decide (i<16)))=true->void=aF [] k i/\4=bJ [] k i)/\
                ((!(decide (0<=i)&&decide (i<16)))=false->
                  nH k i/\iz [] (aa [] k) k i=aF [] k i/\0=bJ [] k i))):=by
 have hE:∀e,ay [] k 2 false=e->e≠0->void=aF [] k i/\e=bJ [] k i:=fun e h h0=>by
  unfold aF bJ;rw[h,Yp h0,Yp h0];exact⟨rfl,rfl⟩
 refine⟨rfl,rfl,fun h=>hE _ ?_ (by omega),fun h=>⟨rfl,fun h2=>hE _ ?_ (by omega),fun h2=>⟨rfl,rfl,fun h3=>?_,fun h3=>?_⟩⟩⟩
 ·unfold ay;unfold an at h;rw[Yq (by simp at h;omega)]
 ·unfold ay;unfold an at h;rw[Yp (by simp at h;omega),Yq (by simpa using h2)]
 ·have hA:ay [] k 2 false=0:=by
   unfold ay;unfold an at h;rw[Yp (by simp at h;omega),Yp (by simpa using h2),Yp (by simp)]
  rw[Bool.not_eq_true']at h3;unfold aF bJ jv;rw[hA,Yq rfl,h3];exact⟨rfl,rfl⟩
 ·have hA:ay [] k 2 false=0:=by
   unfold ay;unfold an at h;rw[Yp (by simp at h;omega),Yp (by simpa using h2),Yp (by simp)]
  obtain⟨a1,_,_⟩:=fG hA;obtain⟨b1,b2,b3,b4,_⟩:=dz a1;rw[Bool.not_eq_false']at h3;have h3':0<=i/\i<16:=by simpa using h3
  unfold aF bJ jv;rw[hA,Yq rfl,h3,Yq rfl,Yq rfl,b4];exact⟨⟨h3'.1,h3'.2,b1⟩,rfl,rfl⟩
theorem O7 (L:List Sx.Obj) (k:Key) (i:Int):
 true=true/\
  true=true/\
   ((!decide (0<an L))=true->void=aF L k i/\1=bJ L k i)/\
     ((!decide (0<an L))=false->
       true=true/\
        ((!(aU L k&&decide (k.kind=2)))=true->void=aF L k i/\190=bJ L k i)/\
          ((!(aU L k&&decide (k.kind=2)))=false->
            true=true/\
             true=true/\
              ((!(decide (0<=i)&&decide (i<16)))=true->void=aF L k i/\4=bJ L k i)/\
                ((!(decide (0<=i)&&decide (i<16)))=false->
                  nH k i/\iz L (aa L k) k i=aF L k i/\0=bJ L k i))):=by
 have hE:∀e,ay L k 2 false=e->e≠0->void=aF L k i/\e=bJ L k i:=fun e h h0=>by
  unfold aF bJ;rw[h,Yp h0,Yp h0];exact⟨rfl,rfl⟩
 refine⟨rfl,rfl,fun h=>hE _ ?_ (by omega),fun h=>⟨rfl,fun h2=>hE _ ?_ (by omega),fun h2=>⟨rfl,rfl,fun h3=>?_,fun h3=>?_⟩⟩⟩
 ·unfold ay;unfold an at h;rw[Yq (by simp at h;omega)]
 ·unfold ay;unfold an at h;rw[Yp (by simp at h;omega),Yq (by simpa using h2)]
 ·have hA:ay L k 2 false=0:=by
   unfold ay;unfold an at h;rw[Yp (by simp at h;omega),Yp (by simpa using h2),Yp (by simp)]
  rw[Bool.not_eq_true']at h3;unfold aF bJ jv;rw[hA,Yq rfl,h3];exact⟨rfl,rfl⟩
 ·have hA:ay L k 2 false=0:=by
   unfold ay;unfold an at h;rw[Yp (by simp at h;omega),Yp (by simpa using h2),Yp (by simp)]
  obtain⟨a1,_,_⟩:=fG hA;obtain⟨b1,b2,b3,b4,_⟩:=dz a1;rw[Bool.not_eq_false']at h3;have h3':0<=i/\i<16:=by simpa using h3
  unfold aF bJ jv;rw[hA,Yq rfl,h3,Yq rfl,Yq rfl,b4];exact⟨⟨h3'.1,h3'.2,b1⟩,rfl,rfl⟩
theorem qQ:ck Tryz.prog 63 S0:=
 eP (aJ s8 (aJ gQ (aJ ft cF))) (fun _=>rfl) fun a hq hok=>by
  obtain⟨S,k,i,_⟩:=a;cases S with
  |none=>exact aW (inl:=(fun f=>f==134||f==133)) (ann:=aP) (ab bC (ab bL (ab nh ak))) aC (eH gJ) (IP k i) (by kernel_rfl)
  |some L=>exact aW (inl:=(fun f=>f==134||f==133)) (ann:=aP) (ab bC (ab bL (ab nh ak))) aC (eH gJ) (O7 L k i) (by kernel_rfl)
end Go.Proofs.YtghpaegglbbocaaGreat
namespace Go.Proofs.YtghpaegglbbocaaGreat
open Go.Sx
set_option maxRecDepth 100000
theorem KD (k:Key) (i:Int) (v:Key):
 true=true/\
  true=true/\
   ((!decide (0<an []))=true->void=cz [] k i v/\1=ba [] k i v)/\
     ((!decide (0<an []))=false->
       true=true/\
        ((!(aU [] k&&decide (k.kind=2)))=true->void=cz [] k i v/\190=ba [] k i v)/\
          ((!(aU [] k&&decide (k.kind=2)))=false->
            true=true/\
             ((!decide (bc BinOp.and IntKind.i64 k.rights 3=0))=true->
               void=cz [] k i v/\191=ba [] k i v)/\
               ((!decide (bc BinOp.and IntKind.i64 k.rights 3=0))=false->
                 true=true/\
                  ((!(decide (0<=i)&&decide (i<16)))=true->
                      void=cz [] k i v/\4=ba [] k i v)/\
                    ((!(decide (0<=i)&&decide (i<16)))=false->
                      true=true/\
                       ((!(decide (bD v=0)&&(!bf v||decide (cS v<an []))))=true->
                           void=cz [] k i v/\2=ba [] k i v)/\
                         ((!(decide (bD v=0)&&(!bf v||decide (cS v<an []))))=false->
                           nH k i/\
                            true=true/\
                             true=true/\
                              (0<=i/\i< ↑16)/\
                               true=true/\
                                iz [] (aa [] k) k i=cz [] k i v/\0=ba [] k i v))))):=by
 refine⟨rfl,rfl,fun _=>⟨rfl,rfl⟩,fun h=>absurd h (by decide)⟩
theorem K9 (k:Key) (i:Int) (v:Key):
 true=true/\
  true=true/\
   ((!decide (0<an []))=true->void=cz [] k i v/\1=ba [] k i v)/\
     ((!decide (0<an []))=false->
       true=true/\
        ((!(aU [] k&&decide (k.kind=2)))=true->void=cz [] k i v/\190=ba [] k i v)/\
          ((!(aU [] k&&decide (k.kind=2)))=false->
            true=true/\
             ((!decide (bc BinOp.and IntKind.i64 k.rights 3=0))=true->
               void=cz [] k i v/\191=ba [] k i v)/\
               ((!decide (bc BinOp.and IntKind.i64 k.rights 3=0))=false->
                 true=true/\
                  ((!(decide (0<=i)&&decide (i<16)))=true->
                      void=cz [] k i v/\4=ba [] k i v)/\
                    ((!(decide (0<=i)&&decide (i<16)))=false->
                      true=true/\
                       ((!(decide (bD v=0)&&(!bf v||decide (cS v<an []))))=true->
                           void=cz [] k i v/\2=ba [] k i v)/\
                         ((!(decide (bD v=0)&&(!bf v||decide (cS v<an []))))=false->
                           nH k i/\true=true/\true=true/\(0<=i/\i< ↑16)/\true=true/\False))))):=by
 refine⟨rfl,rfl,fun _=>⟨rfl,rfl⟩,fun h=>absurd h (by decide)⟩
theorem N8 (L:List Sx.Obj) (k:Key) (i:Int) (v:Key) (hL:aq L):
 true=true/\
  true=true/\
   ((!decide (0<an L))=true->(void=cz L k i v/\1=ba L k i v)/\L=b6 L k i v)/\
     ((!decide (0<an L))=false->
       true=true/\
        ((!(aU L k&&decide (k.kind=2)))=true->
            (void=cz L k i v/\190=ba L k i v)/\L=b6 L k i v)/\
          ((!(aU L k&&decide (k.kind=2)))=false->
            true=true/\
             ((!decide (bc BinOp.and IntKind.i64 k.rights 3=0))=true->
               (void=cz L k i v/\191=ba L k i v)/\L=b6 L k i v)/\
               ((!decide (bc BinOp.and IntKind.i64 k.rights 3=0))=false->
                 true=true/\
                  ((!(decide (0<=i)&&decide (i<16)))=true->
                      (void=cz L k i v/\4=ba L k i v)/\L=b6 L k i v)/\
                    ((!(decide (0<=i)&&decide (i<16)))=false->
                      true=true/\
                       ((!(decide (bD v=0)&&(!bf v||decide (cS v<an L))))=true->
                           (void=cz L k i v/\2=ba L k i v)/\L=b6 L k i v)/\
                         ((!(decide (bD v=0)&&(!bf v||decide (cS v<an L))))=false->
                           nH k i/\
                            true=true/\
                             true=true/\
                              (0<=i/\i< ↑16)/\
                               true=true/\
                                (iz L (aa L k) k i=cz L k i v/\0=ba L k i v)/\
                                 cV L k.oid
                                   {kind:=(aa L k).kind,count:=(aa L k).count,
                                    calls:=(aa L k).calls,
                                    slots:=(aa L k).slots.put i.toNat (ae L v),
                                    bytes:=(aa L k).bytes}=
                                  b6 L k i v))))):=by
 have fin:∀e,ba L k i v=e->e≠0->(void=cz L k i v/\e=ba L k i v)/\L=b6 L k i v:=fun e h h0=>by
  unfold cz b6;rw[h,Yp h0,Yp h0];exact⟨⟨rfl,rfl⟩,rfl⟩
 have bad:∀e,ay L k 2 true=e->e≠0->ba L k i v=e:=fun e h h0=>by unfold ba;rw[h,Yp h0]
 refine⟨rfl,rfl,fun h=>fin _ (bad _ (H9 h) (by omega)) (by omega),fun h=>⟨rfl,fun h2=>fin _ (bad _ (GK h h2) (by omega)) (by omega),fun h2=>⟨rfl,fun h3=>fin _ (bad _ (Sf h h2 h3) (by omega)) (by omega),fun h3=>⟨rfl,fun h4=>fin 4 ?_ (by omega),fun h4=>⟨rfl,fun h5=>fin 2 ?_ (by omega),fun h5=>?_⟩⟩⟩⟩⟩
 ·rw[Bool.not_eq_true']at h4;unfold ba jv;rw[Hu h h2 h3,Yq rfl,h4];rfl
 ·rw[Bool.not_eq_false']at h4;have hm:cZ L v=false:=by rw[<-A7];rw[Bool.not_eq_true']at h5;exact h5
  unfold ba jv;rw[Hu h h2 h3,Yq rfl,h4,hm];rfl
 ·rw[Bool.not_eq_false']at h4;have h4':0<=i/\i<16:=by simpa using h4
  have hm:cZ L v=true:=by rw[<-A7];rw[Bool.not_eq_false']at h5;exact h5
  have hE:ba L k i v=0:=by
   unfold ba jv;rw[Hu h h2 h3,Yq rfl,h4,hm];rfl
  obtain⟨a1,a2⟩:=mW h2;obtain⟨b1,b2,b3,b4,_⟩:=dz a1;have hp:=(nP hL a1 a2 (CN (v:=v) hL a1 a2 h4'.1 h4'.2)).1;unfold cz b6;rw[hE,Yq rfl,Yq rfl,<-hp,b4];exact⟨⟨h4'.1,h4'.2,b1⟩,rfl,rfl,⟨h4'.1,by omega⟩,rfl,⟨rfl,rfl⟩,rfl⟩
theorem NU (L:List Sx.Obj) (k:Key) (i:Int) (v:Key) (hL:aq L):ai Tryz.prog 66 [.lp 0 0,.key k,.it .i64 i,.key v] [.store tS eS L] (B0 (.tp [.key (cz L k i v),.it .i64 (ba L k i v)]) (b6 L k i v)) (fun _ _=>False):=
 aW (inl:=(fun f=>f==134||f==133||f==136||f==137)) (ann:=aP) (ab bC (ab bL (ab nh (ab eY (ab jj (ab lf ak)))))) (aD dN aC) (eH gJ) (N8 L k i v hL) (by kernel_rfl)
theorem FB:lF Tryz.prog 66 S4:=
 mg (m:=fun x=> [.key x.1,.it .i64 x.2.1,.key x.2.2]) JV (fun _=>rfl) (fun _ _=>rfl) (fun x=>aW (inl:=(fun f=>f==134||f==133||f==136||f==137)) (ann:=aP) (ab bC (ab bL (ab nh (ab eY (ab jj (ab lf ak)))))) (aD dN aC) (eH gJ) (KD x.1 x.2.1 x.2.2) (by kernel_rfl)) (fun x=>aW (inl:=(fun f=>f==134||f==133||f==136||f==137)) (ann:=aP) (ab bC (ab bL (ab nh (ab eY (ab jj (ab lf ak)))))) (aD dN aC) (eH gJ) (K9 x.1 x.2.1 x.2.2) (by kernel_rfl)) fun L x hL _ _=>NU L x.1 x.2.1 x.2.2 hL
theorem IU (k:Key):
 true=true/\
  true=true/\
   ((!decide (0<an []))=true->1=ay [] k 2 true)/\
     ((!decide (0<an []))=false->
       true=true/\
        ((!(aU [] k&&decide (k.kind=2)))=true->190=ay [] k 2 true)/\
          ((!(aU [] k&&decide (k.kind=2)))=false->
            true=true/\
             ((!decide (bc BinOp.and IntKind.i64 k.rights 3=0))=true->191=ay [] k 2 true)/\
               ((!decide (bc BinOp.and IntKind.i64 k.rights 3=0))=false->
                 true=true/\true=true/\true=true/\0=ay [] k 2 true))):=by
 refine⟨rfl,rfl,fun _=>rfl,fun h=>absurd h (by decide)⟩
theorem H8 (k:Key):
 true=true/\
  true=true/\
   ((!decide (0<an []))=true->1=ay [] k 2 true)/\
     ((!decide (0<an []))=false->
       true=true/\
        ((!(aU [] k&&decide (k.kind=2)))=true->190=ay [] k 2 true)/\
          ((!(aU [] k&&decide (k.kind=2)))=false->
            true=true/\
             ((!decide (bc BinOp.and IntKind.i64 k.rights 3=0))=true->191=ay [] k 2 true)/\
               ((!decide (bc BinOp.and IntKind.i64 k.rights 3=0))=false->
                 true=true/\true=true/\true=true/\False))):=by
 refine⟨rfl,rfl,fun _=>rfl,fun h=>absurd h (by decide)⟩
theorem QP (L:List Sx.Obj) (k:Key) (hL:aq L):
 true=true/\
  true=true/\
   ((!decide (0<an L))=true->1=ay L k 2 true/\L=eQ L k)/\
     ((!decide (0<an L))=false->
       true=true/\
        ((!(aU L k&&decide (k.kind=2)))=true->190=ay L k 2 true/\L=eQ L k)/\
          ((!(aU L k&&decide (k.kind=2)))=false->
            true=true/\
             ((!decide (bc BinOp.and IntKind.i64 k.rights 3=0))=true->
               191=ay L k 2 true/\L=eQ L k)/\
               ((!decide (bc BinOp.and IntKind.i64 k.rights 3=0))=false->
                 true=true/\
                  true=true/\
                   true=true/\
                    0=ay L k 2 true/\
                     cV L k.oid
                       {kind:=(aa L k).kind,count:=(aa L k).count,calls:=(aa L k).calls,
                        slots:=fY,bytes:=(aa L k).bytes}=
                      eQ L k))):=by
 have fin:∀e,ay L k 2 true=e->e≠0->e=ay L k 2 true/\L=eQ L k:=fun e h h0=>by
  unfold eQ;rw[h,Yp h0];exact⟨rfl,rfl⟩
 refine⟨rfl,rfl,fun h=>fin _ (H9 h) (by omega),fun h=>⟨rfl,fun h2=>fin _ (GK h h2) (by omega),fun h2=>⟨rfl,fun h3=>fin _ (Sf h h2 h3) (by omega),fun h3=>⟨rfl,rfl,rfl,?_⟩⟩⟩⟩
 obtain⟨a1,a2⟩:=mW h2;have hp:=(nP hL a1 a2 (F9 (by omega))).1
 unfold eQ;rw[Hu h h2 h3,Yq rfl,<-hp];exact⟨rfl,rfl⟩
theorem Qt (L:List Sx.Obj) (k:Key) (hL:aq L):ai Tryz.prog 69 [.lp 0 0,.key k] [.store tS eS L] (B0 (.it .i64 (ay L k 2 true)) (eQ L k)) (fun _ _=>False):=
 aW (inl:=(fun f=>f==134||f==133||f==136||f==138)) (ann:=aP) (ab bC (ab bL ak)) (aD dN aC) (eH gJ) (QP L k hL) (by kernel_rfl)
theorem Oz:lF Tryz.prog 69 TB:=
 mg (m:=fun x=> [.key x]) LQ (fun _=>rfl) (fun _ _=>rfl) (fun x=>aW (inl:=(fun f=>f==134||f==133||f==136||f==138)) (ann:=aP) (ab bC (ab bL ak)) (aD dN aC) (eH gJ) (IU x) (by kernel_rfl)) (fun x=>aW (inl:=(fun f=>f==134||f==133||f==136||f==138)) (ann:=aP) (ab bC (ab bL ak)) (aD dN aC) (eH gJ) (H8 x) (by kernel_rfl)) fun L x hL _ _=>Qt L x hL
theorem Ks (t f:Key):
 true=true/\
  true=true/\
   ((!decide (0<an []))=true->1=bG [] t f)/\
     ((!decide (0<an []))=false->
       true=true/\
        ((!(aU [] t&&decide (t.kind=2)))=true->190=bG [] t f)/\
          ((!(aU [] t&&decide (t.kind=2)))=false->
            true=true/\
             ((!decide (bc BinOp.and IntKind.i64 t.rights 3=0))=true->191=bG [] t f)/\
               ((!decide (bc BinOp.and IntKind.i64 t.rights 3=0))=false->
                 true=true/\
                  true=true/\
                   ((!decide (0<an []))=true->1=bG [] t f)/\
                     ((!decide (0<an []))=false->
                       true=true/\
                        ((!(aU [] f&&decide (f.kind=2)))=true->190=bG [] t f)/\
                          ((!(aU [] f&&decide (f.kind=2)))=false->
                            true=true/\true=true/\true=true/\False))))):=by
 refine⟨rfl,rfl,fun _=>rfl,fun h=>absurd h (by decide)⟩
theorem Io (t f:Key):
 true=true/\
  true=true/\
   ((!decide (0<an []))=true->1=bG [] t f)/\
     ((!decide (0<an []))=false->
       true=true/\
        ((!(aU [] t&&decide (t.kind=2)))=true->190=bG [] t f)/\
          ((!(aU [] t&&decide (t.kind=2)))=false->
            true=true/\
             ((!decide (bc BinOp.and IntKind.i64 t.rights 3=0))=true->191=bG [] t f)/\
               ((!decide (bc BinOp.and IntKind.i64 t.rights 3=0))=false->
                 true=true/\
                  true=true/\
                   ((!decide (0<an []))=true->1=bG [] t f)/\
                     ((!decide (0<an []))=false->
                       true=true/\
                        ((!(aU [] f&&decide (f.kind=2)))=true->190=bG [] t f)/\
                          ((!(aU [] f&&decide (f.kind=2)))=false->
                            true=true/\true=true/\true=true/\False))))):=by
 refine⟨rfl,rfl,fun _=>rfl,fun h=>absurd h (by decide)⟩
theorem Qr (L:List Sx.Obj) (t f:Key) (hL:aq L):
 true=true/\
  true=true/\
   ((!decide (0<an L))=true->1=bG L t f/\L=dV L t f)/\
     ((!decide (0<an L))=false->
       true=true/\
        ((!(aU L t&&decide (t.kind=2)))=true->190=bG L t f/\L=dV L t f)/\
          ((!(aU L t&&decide (t.kind=2)))=false->
            true=true/\
             ((!decide (bc BinOp.and IntKind.i64 t.rights 3=0))=true->
               191=bG L t f/\L=dV L t f)/\
               ((!decide (bc BinOp.and IntKind.i64 t.rights 3=0))=false->
                 true=true/\
                  true=true/\
                   ((!decide (0<an L))=true->1=bG L t f/\L=dV L t f)/\
                     ((!decide (0<an L))=false->
                       true=true/\
                        ((!(aU L f&&decide (f.kind=2)))=true->
                            190=bG L t f/\L=dV L t f)/\
                          ((!(aU L f&&decide (f.kind=2)))=false->
                            true=true/\
                             true=true/\
                              true=true/\
                               (∃g,
                                 kf g/\
                                  0=g/\
                                   L=L/\
                                    t=t/\
                                     f=f/\
                                      t=t/\
                                       aa L t=aa L t/\
                                        t=t/\
                                         aa L t=aa L t/\
                                          aa L t=aa L t/\
                                           t=t/\
                                            f=f/\
                                             aa L f=aa L f/\
                                              f=f/\
                                               aa L f=aa L f/\
                                                aa L f=aa L f/\
                                                 f=f/\
                                                  aa L t=
                                                    eo (aa L t)
                                                     (cX L t f g)/\
                                                   t=t)/\
                                ∀(g:Int),
                                 kf g->
                                  (decide (g<16)=true->
                                    nH f g/\
                                     (0<=g/\g< ↑16)/\
                                      aG IntKind.i64 (g+1)/\
                                       ∃g',
                                        kf g'/\
                                         nn g'<nn g/\
                                          g+1=g'/\
                                           L=L/\
                                            t=t/\
                                             f=f/\
                                              t=t/\
                                               aa L t=aa L t/\
                                                t=t/\
                                                 aa L t=aa L t/\
                                                  aa L t=aa L t/\
                                                   t=t/\
                                                    f=f/\
                                                     aa L f=aa L f/\
                                                      f=f/\
                                                       aa L f=aa L f/\
                                                        aa L f=aa L f/\
                                                         f=f/\
                                                          {
                                                             kind:=
                                                              (eo
                                                                (aa L t)
                                                                (cX L t
                                                                 f
                                                                 g)).kind,
                                                             count:=
                                                              (eo
                                                                (aa L t)
                                                                (cX L t
                                                                 f
                                                                 g)).count,
                                                             calls:=
                                                              (eo
                                                                (aa L t)
                                                                (cX L t
                                                                 f
                                                                 g)).calls,
                                                             slots:=
                                                              (eo
                                                                 (aa
                                                                  L t)
                                                                 (cX
                                                                  L t f
                                                                  g)).slots.put
                                                               g.toNat
                                                               (iz L
                                                                (aa L f)
                                                                f g),
                                                             bytes:=
                                                              (eo
                                                                (aa L t)
                                                                (cX L t
                                                                 f
                                                                 g)).bytes}=
                                                            eo (aa L t)
                                                             (cX L t f
                                                              g')/\
                                                           t=t)/\
                                   (decide (g<16)=false->
                                    true=true/\
                                     0=bG L t f/\
                                      cV L t.oid (eo (aa L t) (cX L t f g))=
                                       dV L t f)))))):=by
 have fin:∀e,bG L t f=e->e≠0->e=bG L t f/\L=dV L t f:=fun e h h0=>by
  unfold dV;rw[h,Yp h0];exact⟨rfl,rfl⟩
 have bad:∀e,ay L t 2 true=e->e≠0->bG L t f=e:=fun e h h0=>by unfold bG;rw[h,Yp h0]
 refine⟨rfl,rfl,fun h=>fin _ (bad _ (H9 h) (by omega)) (by omega),fun h=>⟨rfl,fun h2=>fin _ (bad _ (GK h h2) (by omega)) (by omega),fun h2=>⟨rfl,fun h3=>fin _ (bad _ (Sf h h2 h3) (by omega)) (by omega),fun h3=>⟨rfl,rfl,fun h4=>?_,fun h4=>⟨rfl,fun h5=>fin 190 ?_ (by omega),fun h5=>⟨rfl,rfl,rfl,?_,fun g hg=>⟨fun hlt=>?_,fun hge=>?_⟩⟩⟩⟩⟩⟩⟩
 ·rw[h]at h4;simp at h4
 ·unfold bG;rw[Hu h h2 h3,Yq rfl,GK h h5]
 ·obtain⟨a1,a2⟩:=mW h2;refine⟨0,⟨by omega,by omega⟩,?_⟩
  have:=Cd (f:=f) (dz a1).2.2.2.1;repeat' apply And.intro
  all_goals first|rfl|exact this
 ·obtain⟨g0,g1⟩:=hg;have hlt:=Yn hlt;obtain⟨a1,a2⟩:=mW h5;have hs:=C0 (t:=t) g0 (dz a1).2.2.2.1 (aa L t) fY;refine⟨⟨g0,by omega,(dz a1).1⟩,⟨g0,by omega⟩,by simp only[aG,bY];omega,g+1,⟨by omega,by omega⟩,by unfold nn;omega,?_⟩
  repeat' apply And.intro
  all_goals first|rfl|exact hs
 ·obtain⟨g0,g1⟩:=hg;have hge:=Ym hge;have:g=16:=by omega
  subst this;obtain⟨a1,a2⟩:=mW h2;have hE:bG L t f=0:=by unfold bG;rw[Hu h h2 h3,Yq rfl,E0 h h5]
  have hp:=(nP hL a1 a2 (xi (f:=f) hL a1 a2 16 (by omega))).1
  unfold dV;rw[hE,Yq rfl];exact⟨rfl,rfl,hp⟩
theorem Qx (L:List Sx.Obj) (t f:Key) (hL:aq L):ai Tryz.prog 71 [.lp 0 0,.key t,.key f] [.store tS eS L] (B0 (.it .i64 (bG L t f)) (dV L t f)) (fun _ _=>False):=
 aW (inl:=(fun f=>f==134||f==133||f==136||f==139)) (ann:=(iy [(139,1,RV [0,1,2] (fun g=> [(4,.it .i64 g)]) 0 (Yd L t f) kf nn)])) (ab bC (ab bL (ab nh ak))) (aD dN aC) (eH gJ) (Qr L t f hL) (by kernel_rfl)
theorem Pc:lF Tryz.prog 71 Uz:=
 mg (m:=fun x=> [.key x.1,.key x.2]) Fa (fun _=>rfl) (fun _ _=>rfl) (fun x=>aW (inl:=(fun f=>f==134||f==133||f==136||f==139)) (ann:=aP) (ab bC (ab bL (ab nh ak))) (aD dN aC) (eH gJ) (Ks x.1 x.2) (by kernel_rfl)) (fun x=>aW (inl:=(fun f=>f==134||f==133||f==136||f==139)) (ann:=aP) (ab bC (ab bL (ab nh ak))) (aD dN aC) (eH gJ) (Io x.1 x.2) (by kernel_rfl)) fun L x hL _ _=>Qx L x.1 x.2 hL
end Go.Proofs.YtghpaegglbbocaaGreat
