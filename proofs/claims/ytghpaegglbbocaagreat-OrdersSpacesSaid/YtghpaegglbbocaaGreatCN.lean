import Derived.Test.YtghpaegglbbocaaGreatKS
import Derived.Test.YtghpaegglbbocaaGreatCV
set_option linter.unusedSimpArgs false
set_option linter.unusedVariables false
namespace Go.Proofs.YtghpaegglbbocaaGreat
open Go.Sx
set_option maxRecDepth 100000
theorem LK (k:Key):
 ((bC []|| !decide (bD k=0))=true->void=ab [] k)/\
   ((bC []|| !decide (bD k=0))=false->
     ((bg k&& !aU [] k)=true->void=ab [] k)/\((bg k&& !aU [] k)=false->k=ab [] k)):=by
 exact BN [] k
theorem MA (L:List Sx.Obj) (k:Key):
 ((bC L|| !decide (bD k=0))=true->void=ab L k)/\
   ((bC L|| !decide (bD k=0))=false->
     ((bg k&& !aU L k)=true->void=ab L k)/\((bg k&& !aU L k)=false->k=ab L k)):=by
 exact BN L k
theorem kV:cj Tryz.prog 22 TK:=
 vM fx (fun _ _=>rfl) (fun x _=>aW (inl:=bn) (ann:=aP) (ae oC (ae jf (ae eV (ae bK an)))) (LK x) (by kernel_rfl)) (fun L x _ _ _=>aW (inl:=bn) (ann:=aP) (ae oC (ae jf (ae eV (ae bK an)))) (MA L x) (by kernel_rfl)) fun _=>rfl
theorem L4 (l:List Sx.Obj) (k:Key):
 ((decide (cw (aj l)=0)|| !decide (bD k=0)||decide (0<=aX k)&& !aU l k)=true->
   void=ab l k)/\
   ((decide (cw (aj l)=0)|| !decide (bD k=0)||decide (0<=aX k)&& !aU l k)=false->
     k=ab l k):=by
 exact F4 l k
theorem pH:cj Tryz.prog 45 OP:=Fl fx (fun _ _=>rfl) (fun l k _ _ _=>aW (inl:=bn) (ann:=aP) (ae qT (ae lX (ae lZ an))) (L4 l k) (by kernel_rfl)) fun _=>rfl
end Go.Proofs.YtghpaegglbbocaaGreat
namespace Go.Sx
def W8 (nid:Nat):V:= .mp nid
def WS (nid:Nat):List aH:= [.mp .i64 [2,3,1,8] [.fn 201 [.lp (nid+1) 0],.fn 201 [.lp (nid+1+1) 0],.fn 199 [],.fn 199 []],
 .blk 23 (.ci .i64 3),.blk 23 (.ci .i64 1)]
def tN:Nat:=166
def XE (L:List Obj) (t f:Key) (g:Int):aH:= .blk tN (.ag [.ob (en (aa L t) (cY L t f g)),.lp 0 0,.key t])
end Go.Sx
namespace Go.Proofs.YtghpaegglbbocaaGreat
open Go.Sx
set_option maxRecDepth 100000
theorem Qt:
 true=true/\
 true=true/\
  ∀(nid:Nat),some (W8 nid)=some (W8 nid)/\some (WS nid)=some (WS nid):=by
 exact⟨rfl,rfl,fun nid=>⟨rfl,rfl⟩⟩
theorem Qd:cj Tryz.prog 193 (CB W8 WS):=wV (π:= [0,1,2]) (by decide) (fun _=>rfl) (br (inl:=(fun f=>f==200)) (ann:=aP) an aC Qt (by kernel_rfl))
theorem KT (r m:Int) (hr:cg .i64 r) (hm0:cg .i64 m):
 (∃g,jL g/\r=r/\m=m/\0=fI r m g/\1=g)/\
  ∀(g:Int),
   jL g->
    (decide (g<=4)=true->
      (mX g/\aI IntKind.i64 (r.tdiv g))/\
       (mX 2/\aI IntKind.i64 ((r.tdiv g).tmod 2))/\
        ((!decide ((r.tdiv g).tmod 2=1))=true->mX g/\aI IntKind.i64 (m.tdiv g))/\
          ((!decide ((r.tdiv g).tmod 2=1))=true->mX 2/\aI IntKind.i64 ((m.tdiv g).tmod 2))/\
            ((decide ((r.tdiv g).tmod 2=1)||decide ((m.tdiv g).tmod 2=1))=true->
              aI IntKind.i64 (fI r m g+g)/\
               aI IntKind.i64 (g*2)/\
                ∃g',
                 jL g'/\
                  (8-g').toNat<(8-g).toNat/\
                   r=r/\m=m/\fI r m g+g=fI r m g'/\g*2=g')/\
              ((decide ((r.tdiv g).tmod 2=1)||decide ((m.tdiv g).tmod 2=1))=false->
                aI IntKind.i64 (g*2)/\
                 ∃g',
                  jL g'/\
                   (8-g').toNat<(8-g).toNat/\
                    r=r/\m=m/\fI r m g=fI r m g'/\g*2=g'))/\
     (decide (g<=4)=false->fI r m g=gw r m):=by
 refine⟨⟨1,.inl rfl,rfl,rfl,by simp[fI],rfl⟩,fun g hg=>⟨fun hlt=>?_,fun hge=>?_⟩⟩
 ·have hlt:=XO hlt;have hne:mX g:=by unfold mX;rcases hg with rfl|rfl|rfl|rfl<;>omega
  have h2:mX 2:=by unfold mX;omega
  have hs:=CC (r:=r) (m:=m) (g:=g)
  have hn:∃g',jL g'/\(8-g').toNat<(8-g).toNat/\g*2=g':=by
   rcases hg with rfl|rfl|rfl|rfl
   ·exact⟨2,.inr (.inl rfl),by omega,rfl⟩
   ·exact⟨4,.inr (.inr (.inl rfl)),by omega,rfl⟩
   ·exact⟨8,.inr (.inr (.inr rfl)),by omega,rfl⟩
   ·omega
  obtain⟨g',hg1,hg2,rfl⟩:=hn;have hm:aI IntKind.i64 (g*2):=by simp only[aI,cg];rcases hg with rfl|rfl|rfl|rfl<;>omega
  refine⟨⟨hne,tT hr hg⟩,⟨h2,nQ _⟩,fun _=>⟨hne,tT hm0 hg⟩,fun _=>⟨h2,nQ _⟩,fun h=>⟨by simp only[aI,cg];omega,hm,_,hg1,hg2,rfl,rfl,?_,rfl⟩,fun h=>⟨hm,_,hg1,hg2,rfl,rfl,?_,rfl⟩⟩
  ·rcases hg with rfl|rfl|rfl|rfl
   ·simp[fI,fU]at h⊢;grind
   ·simp[fI,fU]at h⊢;grind
   ·simp[fI,fU]at h⊢;grind
   ·omega
  ·rcases hg with rfl|rfl|rfl|rfl
   ·simp[fI,fU,h]at h⊢ <;>grind
   ·simp[fI,fU,h]at h⊢ <;>grind
   ·simp[fI,fU,h]at h⊢ <;>grind
   ·omega
 ·have hge:=XN hge;rcases hg with rfl|rfl|rfl|rfl<;>first|rfl|omega
theorem ye:cj Tryz.prog 29 Qy:=
 mz (fy .i64) (fy .i64) (fun _ _=>rfl) fun r m hr hm=>aW (inl:=bn) (ann:=(jC [(29,3,T2 [0,1,4] (fun g=> [(5,.it .i64 (fI r m g)),(6,.it .i64 g)]) jL 8)])) an (KT r m hr hm) (by kernel_rfl)
theorem H6 (k:Key):
 (decide (k.kind=2)=true->
   {kind:=k.kind,oid:=k.oid,count:=k.count,call:=k.call,rights:=gw k.rights 3,
    value:=k.value}=
    jM k)/\
  (decide (k.kind=2)=false->
   (decide (k.kind=3)=true->
     {kind:=k.kind,oid:=k.oid,count:=k.count,call:=k.call,rights:=1,value:=k.value}=
      jM k)/\
    (decide (k.kind=3)=false->
     (decide (k.kind=1)=true->
       (decide (k.kind=1)=true->k=jM k)/\(decide (k.kind=1)=false->void=jM k))/\
      (decide (k.kind=1)=false->
       (decide (k.kind=8)=true->k=jM k)/\(decide (k.kind=8)=false->void=jM k)))):=by
 unfold jM cL;grind
theorem JN:cj Tryz.prog 191 PC:=
 oI fx (fun _=>rfl) fun k hk=>aW (inl:=bn) (ann:=aP) (ae ye an) (H6 k) (by kernel_rfl)
theorem Hs (k:Key):
 ((!decide (bD k=0))=true->void=gD k/\2=bD k)/\
   ((!decide (bD k=0))=false->
     ((decide (k.kind=2)||(decide (k.kind=3)||(decide (k.kind=1)||decide (k.kind=8))))=true->
       (decide (k.kind=2)=true->
         true=true/\
          {kind:=k.kind,oid:=k.oid,count:=k.count,call:=k.call,
             rights:=bd BinOp.or IntKind.i64 k.rights 3,value:=k.value}=
           gD k/\
           0=bD k)/\
        (decide (k.kind=2)=false->
         (decide (k.kind=3)=true->
           true=true/\
            {kind:=k.kind,oid:=k.oid,count:=k.count,call:=k.call,
               rights:=bd BinOp.or IntKind.i64 k.rights 1,value:=k.value}=
             gD k/\
             0=bD k)/\
          (decide (k.kind=3)=false->
           (decide (k.kind=1)=true->true=true/\k=gD k/\0=bD k)/\
            (decide (k.kind=1)=false->
             (decide (k.kind=8)=true->true=true/\k=gD k/\0=bD k)/\
              (decide (k.kind=8)=false->False)))))/\
       ((decide (k.kind=2)||(decide (k.kind=3)||(decide (k.kind=1)||decide (k.kind=8))))=false->
         void=gD k/\0=bD k)):=by
 unfold gD bD;cases hok:aT k
 ·simp
 have hr:=gS hok;have o3:k.kind=2->bd BinOp.or IntKind.i64 k.rights 3=gw k.rights 3:=fun e=>JA hr.1 (by rw[e]at hr;exact hr.2)
 have o1:k.kind=3->bd BinOp.or IntKind.i64 k.rights 1=1:=fun e=>CM hr.1 (by rw[e]at hr;exact hr.2)
 unfold jM cL;grind
theorem zs:cj Tryz.prog 184 Me:=
 oI fx (fun _=>rfl) fun k hk=>br (inl:=(fun f=>f==201||f==199)) (ann:=aP) (ae jf (ae Qd an)) aC (Hs k) (by kernel_rfl)
end Go.Proofs.YtghpaegglbbocaaGreat
namespace Go.Proofs.YtghpaegglbbocaaGreat
open Go.Sx
set_option maxRecDepth 100000
theorem LB (o:Sx.Obj) (k:Key) (i:Int) (hq:nu k i):
 (0<=i/\i< ↑16)/\
  ((!decide (bd BinOp.and IntKind.i64 k.rights 2=0))=true->
    gD (ab [] (o.slots.at i.toNat))=ij [] o k i)/\
    ((!decide (bd BinOp.and IntKind.i64 k.rights 2=0))=false->
      ab [] (o.slots.at i.toNat)=ij [] o k i):=by
 exact FY hq
theorem P3 (o:Sx.Obj) (L:List Sx.Obj) (k:Key) (i:Int) (hq:nu k i):
 (0<=i/\i< ↑16)/\
  ((!decide (bd BinOp.and IntKind.i64 k.rights 2=0))=true->
    gD (ab L (o.slots.at i.toNat))=ij L o k i)/\
    ((!decide (bd BinOp.and IntKind.i64 k.rights 2=0))=false->ab L (o.slots.at i.toNat)=ij L o k i):=by
 exact FY hq
theorem mP:cj Tryz.prog 135 TM:=
 eY (aJ (S0 Uy) (aJ fl cK)) (fun _=>rfl) fun a hq hok=>by
  obtain⟨⟨o,S,k,_⟩,i,_⟩:=a;cases S with
  |none=>exact aW (inl:=bn) (ann:=aP) (ae kV (ae zs an)) (LB o k i hq) (by kernel_rfl)
  |some L=>exact aW (inl:=bn) (ann:=aP) (ae kV (ae zs an)) (P3 o L k i hq) (by kernel_rfl)
theorem Mr (L:List Sx.Obj) (k:Key) (d:Int) (c:Bool):
 (decide (cw (aj L)=0)=true->1=aw L k d c)/\
  (decide (cw (aj L)=0)=false->
   ((!aU L k|| !decide (k.kind=d))=true->190=aw L k d c)/\
     ((!aU L k|| !decide (k.kind=d))=false->
       (c=true->mX 4/\aI IntKind.i64 (k.rights.tmod 4))/\
        ((c&& !decide (k.rights.tmod 4=0))=true->191=aw L k d c)/\
          ((c&& !decide (k.rights.tmod 4=0))=false->0=aw L k d c))):=by
 unfold aw;refine⟨fun h=>?_,fun h=>⟨fun h2=>?_,fun h2=>⟨fun hc=>⟨by unfold mX;omega,?_⟩,fun h3=>?_,fun h3=>?_⟩⟩⟩
 ·rw[XR (by simpa[cw]using h)]
 ·rw[XQ (by simpa[cw]using h),XR h2]
 ·have h1:=Int.tmod_lt_of_pos k.rights (show(0:Int)<4 by omega)
  have h2:=Int.lt_tmod_of_pos k.rights (show(0:Int)<4 by omega)
  simp only[aI,cg];omega
 ·rw[XQ (by simpa[cw]using h),XQ (by rw[h2];simp),XR h3]
 ·rw[XQ (by simpa[cw]using h),XQ (by rw[h2];simp),XQ (by rw[h3];simp)]
theorem nI:cj Tryz.prog 176 Nw:=
 eY (aJ jo (aJ gM (aJ fl (aJ FV cK)))) (fun _=>rfl) fun a hq hok=>by
  obtain⟨L,k,d,c,_⟩:=a;exact aW (inl:=bn) (ann:=aP) (ae lZ an) (Mr L k d c) (by kernel_rfl)
theorem Og (L:List Sx.Obj) (k:Key) (i:Int) (hk:cg .i64 k.rights) (hq:mZ L k i):
 (0<=k.oid/\k.oid< ↑(aj L))/\
  (0<=i/\i< ↑16)/\
   k.oid.toNat<aj L/\
    (mX 2/\aI IntKind.i64 (k.rights.tdiv 2))/\
     (mX 2/\aI IntKind.i64 ((k.rights.tdiv 2).tmod 2))/\
      (decide ((k.rights.tdiv 2).tmod 2=1)=true->
        jM (ab L ((ah L k.oid.toNat free).slots.at i.toNat))=cN L k i)/\
       (decide ((k.rights.tdiv 2).tmod 2=1)=false->
        ab L ((ah L k.oid.toNat free).slots.at i.toNat)=cN L k i):=by
 obtain⟨h0,h1,h2,h3⟩:=hq;have e2:mX 2:=by unfold mX;omega
 refine⟨⟨h2,h3⟩,⟨h0,by omega⟩,by omega,⟨e2,tT hk (.inr (.inl rfl))⟩,⟨e2,nQ _⟩,fun h=>?_,fun h=>?_⟩
 ·unfold cN ij qO;rw[XR h]
 ·unfold cN ij qO;rw[XQ (by rw[h];simp)]
theorem vO:cj Tryz.prog 177 TB:=
 eY (aJ jo (aJ gM (aJ fl cK))) (fun _=>rfl) fun a hq hok=>by
  obtain⟨L,k,i,_⟩:=a;exact aW (inl:=bn) (ann:=aP) (ae pH (ae JN an)) (Og L k i hok.2.1.2.2.2.2.1 hq) (by kernel_rfl)
theorem RY (L:List Sx.Obj) (k:Key):
 (decide (bD k=0)&&decide (aX k<cw (aj L)))=cZ L k:=by
 unfold cZ bD cw;cases aT k<;>simp
theorem AW:cj Tryz.prog 42 UZ:=
 eY (aJ jo (aJ gM cK)) (fun _=>rfl) fun a hq hok=>by
  obtain⟨L,k,_⟩:=a;exact aW (inl:=bn) (ann:=aP) (ae qT (ae lX an)) (RY L k) (by kernel_rfl)
theorem Oq (L:List Sx.Obj) (i:Int) (o:Sx.Obj) (hq:dN L i):
 E9 (aj L) 856/\
  (0<=i/\i< ↑(aj L))/\
   i.toNat<aj L/\
    ∀(nid:Nat),
     some (V.sa nid)=some (V.sa nid)/\
      some [aH.arr (some tO) 163 (TL.ob (cx L i.toNat o))]=
       some [aH.arr (some tO) 163 (TL.ob (cx L i.toNat o))]:=by
 obtain⟨h0,h1,h2⟩:=hq;exact⟨⟨by simp only[maxLen];omega,by omega⟩,⟨h0,h1⟩,by omega,fun nid=>⟨rfl,rfl⟩⟩
theorem j7:cj Tryz.prog 178 Tv:=
 Ny (π:=fun _=> [2]) (aJ jo (aJ fl (aJ Rb cK))) (fun _=>by simp) (fun _ _=>rfl) fun a hq hok=>by
  obtain⟨L,i,o,_⟩:=a;exact aW (inl:=bn) (ann:=aP) an (Oq L i o hq) (by kernel_rfl)
theorem Lu (k:Key) (i:Int):
 true=true/\
  true=true/\
   ((!decide (0<ak []))=true->void=aE [] k i/\1=bI [] k i)/\
     ((!decide (0<ak []))=false->
       true=true/\
        ((!(aU [] k&&decide (k.kind=2)))=true->void=aE [] k i/\190=bI [] k i)/\
          ((!(aU [] k&&decide (k.kind=2)))=false->
            true=true/\
             true=true/\
              ((!(decide (0<=i)&&decide (i<16)))=true->void=aE [] k i/\4=bI [] k i)/\
                ((!(decide (0<=i)&&decide (i<16)))=false->
                  nu k i/\ij [] (aa [] k) k i=aE [] k i/\0=bI [] k i))):=by
 have hE:∀e,aw [] k 2 false=e->e≠0->void=aE [] k i/\e=bI [] k i:=fun e h h0=>by
  unfold aE bI;rw[h,XQ h0,XQ h0];exact⟨rfl,rfl⟩
 refine⟨rfl,rfl,fun h=>hE _ ?_ (by omega),fun h=>⟨rfl,fun h2=>hE _ ?_ (by omega),fun h2=>⟨rfl,rfl,fun h3=>?_,fun h3=>?_⟩⟩⟩
 ·unfold aw;unfold ak at h;rw[XR (by simp at h;omega)]
 ·unfold aw;unfold ak at h;rw[XQ (by simp at h;omega),XR (by simpa using h2)]
 ·have hA:aw [] k 2 false=0:=by
   unfold aw;unfold ak at h;rw[XQ (by simp at h;omega),XQ (by simpa using h2),XQ (by simp)]
  rw[Bool.not_eq_true']at h3;unfold aE bI jm;rw[hA,XR rfl,h3];exact⟨rfl,rfl⟩
 ·have hA:aw [] k 2 false=0:=by
   unfold aw;unfold ak at h;rw[XQ (by simp at h;omega),XQ (by simpa using h2),XQ (by simp)]
  obtain⟨a1,_,_⟩:=fD hA;obtain⟨b1,b2,b3,b4,_⟩:=dB a1;rw[Bool.not_eq_false']at h3;have h3':0<=i/\i<16:=by simpa using h3
  unfold aE bI jm;rw[hA,XR rfl,h3,XR rfl,XR rfl,b4];exact⟨⟨h3'.1,h3'.2,b1⟩,rfl,rfl⟩
theorem P5 (L:List Sx.Obj) (k:Key) (i:Int):
 true=true/\
  true=true/\
   ((!decide (0<ak L))=true->void=aE L k i/\1=bI L k i)/\
     ((!decide (0<ak L))=false->
       true=true/\
        ((!(aU L k&&decide (k.kind=2)))=true->void=aE L k i/\190=bI L k i)/\
          ((!(aU L k&&decide (k.kind=2)))=false->
            true=true/\
             true=true/\
              ((!(decide (0<=i)&&decide (i<16)))=true->void=aE L k i/\4=bI L k i)/\
                ((!(decide (0<=i)&&decide (i<16)))=false->
                  nu k i/\ij L (aa L k) k i=aE L k i/\0=bI L k i))):=by
 have hE:∀e,aw L k 2 false=e->e≠0->void=aE L k i/\e=bI L k i:=fun e h h0=>by
  unfold aE bI;rw[h,XQ h0,XQ h0];exact⟨rfl,rfl⟩
 refine⟨rfl,rfl,fun h=>hE _ ?_ (by omega),fun h=>⟨rfl,fun h2=>hE _ ?_ (by omega),fun h2=>⟨rfl,rfl,fun h3=>?_,fun h3=>?_⟩⟩⟩
 ·unfold aw;unfold ak at h;rw[XR (by simp at h;omega)]
 ·unfold aw;unfold ak at h;rw[XQ (by simp at h;omega),XR (by simpa using h2)]
 ·have hA:aw L k 2 false=0:=by
   unfold aw;unfold ak at h;rw[XQ (by simp at h;omega),XQ (by simpa using h2),XQ (by simp)]
  rw[Bool.not_eq_true']at h3;unfold aE bI jm;rw[hA,XR rfl,h3];exact⟨rfl,rfl⟩
 ·have hA:aw L k 2 false=0:=by
   unfold aw;unfold ak at h;rw[XQ (by simp at h;omega),XQ (by simpa using h2),XQ (by simp)]
  obtain⟨a1,_,_⟩:=fD hA;obtain⟨b1,b2,b3,b4,_⟩:=dB a1;rw[Bool.not_eq_false']at h3;have h3':0<=i/\i<16:=by simpa using h3
  unfold aE bI jm;rw[hA,XR rfl,h3,XR rfl,XR rfl,b4];exact⟨⟨h3'.1,h3'.2,b1⟩,rfl,rfl⟩
theorem qP:cj Tryz.prog 63 Tk:=
 eY (aJ tf (aJ gM (aJ fl cK))) (fun _=>rfl) fun a hq hok=>by
  obtain⟨S,k,i,_⟩:=a;cases S with
  |none=>exact aV (inl:=(fun f=>f==134||f==133)) (ann:=aP) (ae bB (ae bK (ae mP an))) aC (eD gI) (Lu k i) (by kernel_rfl)
  |some L=>exact aV (inl:=(fun f=>f==134||f==133)) (ann:=aP) (ae bB (ae bK (ae mP an))) aC (eD gI) (P5 L k i) (by kernel_rfl)
end Go.Proofs.YtghpaegglbbocaaGreat
namespace Go.Proofs.YtghpaegglbbocaaGreat
open Go.Sx
set_option maxRecDepth 100000
theorem Lz (k:Key) (i:Int) (v:Key):
 true=true/\
  true=true/\
   ((!decide (0<ak []))=true->void=cA [] k i v/\1=bc [] k i v)/\
     ((!decide (0<ak []))=false->
       true=true/\
        ((!(aU [] k&&decide (k.kind=2)))=true->void=cA [] k i v/\190=bc [] k i v)/\
          ((!(aU [] k&&decide (k.kind=2)))=false->
            true=true/\
             ((!decide (bd BinOp.and IntKind.i64 k.rights 3=0))=true->
               void=cA [] k i v/\191=bc [] k i v)/\
               ((!decide (bd BinOp.and IntKind.i64 k.rights 3=0))=false->
                 true=true/\
                  ((!(decide (0<=i)&&decide (i<16)))=true->
                      void=cA [] k i v/\4=bc [] k i v)/\
                    ((!(decide (0<=i)&&decide (i<16)))=false->
                      true=true/\
                       ((!(decide (bD v=0)&&(!bg v||decide (cR v<ak []))))=true->
                           void=cA [] k i v/\2=bc [] k i v)/\
                         ((!(decide (bD v=0)&&(!bg v||decide (cR v<ak []))))=false->
                           nu k i/\
                            true=true/\
                             true=true/\
                              (0<=i/\i< ↑16)/\
                               true=true/\
                                ij [] (aa [] k) k i=cA [] k i v/\0=bc [] k i v))))):=by
 refine⟨rfl,rfl,fun _=>⟨rfl,rfl⟩,fun h=>absurd h (by decide)⟩
theorem Md (k:Key) (i:Int) (v:Key):
 true=true/\
  true=true/\
   ((!decide (0<ak []))=true->void=cA [] k i v/\1=bc [] k i v)/\
     ((!decide (0<ak []))=false->
       true=true/\
        ((!(aU [] k&&decide (k.kind=2)))=true->void=cA [] k i v/\190=bc [] k i v)/\
          ((!(aU [] k&&decide (k.kind=2)))=false->
            true=true/\
             ((!decide (bd BinOp.and IntKind.i64 k.rights 3=0))=true->
               void=cA [] k i v/\191=bc [] k i v)/\
               ((!decide (bd BinOp.and IntKind.i64 k.rights 3=0))=false->
                 true=true/\
                  ((!(decide (0<=i)&&decide (i<16)))=true->
                      void=cA [] k i v/\4=bc [] k i v)/\
                    ((!(decide (0<=i)&&decide (i<16)))=false->
                      true=true/\
                       ((!(decide (bD v=0)&&(!bg v||decide (cR v<ak []))))=true->
                           void=cA [] k i v/\2=bc [] k i v)/\
                         ((!(decide (bD v=0)&&(!bg v||decide (cR v<ak []))))=false->
                           nu k i/\true=true/\true=true/\(0<=i/\i< ↑16)/\true=true/\False))))):=by
 refine⟨rfl,rfl,fun _=>⟨rfl,rfl⟩,fun h=>absurd h (by decide)⟩
theorem OG (L:List Sx.Obj) (k:Key) (i:Int) (v:Key) (hL:aq L):
 true=true/\
  true=true/\
   ((!decide (0<ak L))=true->(void=cA L k i v/\1=bc L k i v)/\L=bZ L k i v)/\
     ((!decide (0<ak L))=false->
       true=true/\
        ((!(aU L k&&decide (k.kind=2)))=true->
            (void=cA L k i v/\190=bc L k i v)/\L=bZ L k i v)/\
          ((!(aU L k&&decide (k.kind=2)))=false->
            true=true/\
             ((!decide (bd BinOp.and IntKind.i64 k.rights 3=0))=true->
               (void=cA L k i v/\191=bc L k i v)/\L=bZ L k i v)/\
               ((!decide (bd BinOp.and IntKind.i64 k.rights 3=0))=false->
                 true=true/\
                  ((!(decide (0<=i)&&decide (i<16)))=true->
                      (void=cA L k i v/\4=bc L k i v)/\L=bZ L k i v)/\
                    ((!(decide (0<=i)&&decide (i<16)))=false->
                      true=true/\
                       ((!(decide (bD v=0)&&(!bg v||decide (cR v<ak L))))=true->
                           (void=cA L k i v/\2=bc L k i v)/\L=bZ L k i v)/\
                         ((!(decide (bD v=0)&&(!bg v||decide (cR v<ak L))))=false->
                           nu k i/\
                            true=true/\
                             true=true/\
                              (0<=i/\i< ↑16)/\
                               true=true/\
                                (ij L (aa L k) k i=cA L k i v/\0=bc L k i v)/\
                                 cW L k.oid
                                   {kind:=(aa L k).kind,count:=(aa L k).count,
                                    calls:=(aa L k).calls,
                                    slots:=(aa L k).slots.put i.toNat (ab L v),
                                    bytes:=(aa L k).bytes}=
                                  bZ L k i v))))):=by
 have fin:∀e,bc L k i v=e->e≠0->(void=cA L k i v/\e=bc L k i v)/\L=bZ L k i v:=fun e h h0=>by
  unfold cA bZ;rw[h,XQ h0,XQ h0];exact⟨⟨rfl,rfl⟩,rfl⟩
 have bad:∀e,aw L k 2 true=e->e≠0->bc L k i v=e:=fun e h h0=>by unfold bc;rw[h,XQ h0]
 refine⟨rfl,rfl,fun h=>fin _ (bad _ (HH h) (by omega)) (by omega),fun h=>⟨rfl,fun h2=>fin _ (bad _ (Gw h h2) (by omega)) (by omega),fun h2=>⟨rfl,fun h3=>fin _ (bad _ (Sm h h2 h3) (by omega)) (by omega),fun h3=>⟨rfl,fun h4=>fin 4 ?_ (by omega),fun h4=>⟨rfl,fun h5=>fin 2 ?_ (by omega),fun h5=>?_⟩⟩⟩⟩⟩
 ·rw[Bool.not_eq_true']at h4;unfold bc jm;rw[Hv h h2 h3,XR rfl,h4];rfl
 ·rw[Bool.not_eq_false']at h4;have hm:cZ L v=false:=by rw[<-AB];rw[Bool.not_eq_true']at h5;exact h5
  unfold bc jm;rw[Hv h h2 h3,XR rfl,h4,hm];rfl
 ·rw[Bool.not_eq_false']at h4;have h4':0<=i/\i<16:=by simpa using h4
  have hm:cZ L v=true:=by rw[<-AB];rw[Bool.not_eq_false']at h5;exact h5
  have hE:bc L k i v=0:=by
   unfold bc jm;rw[Hv h h2 h3,XR rfl,h4,hm];rfl
  obtain⟨a1,a2⟩:=mF h2;obtain⟨b1,b2,b3,b4,_⟩:=dB a1;have hp:=(nX hL a1 a2 (Db (v:=v) hL a1 a2 h4'.1 h4'.2)).1;unfold cA bZ;rw[hE,XR rfl,XR rfl,<-hp,b4];exact⟨⟨h4'.1,h4'.2,b1⟩,rfl,rfl,⟨h4'.1,by omega⟩,rfl,⟨rfl,rfl⟩,rfl⟩
theorem PD (L:List Sx.Obj) (k:Key) (i:Int) (v:Key) (hL:aq L):ai Tryz.prog 66 [.lp 0 0,.key k,.it .i64 i,.key v] [.store tS eS L] (CP (.tp [.key (cA L k i v),.it .i64 (bc L k i v)]) (bZ L k i v)) (fun _ _=>False):=
 aV (inl:=(fun f=>f==134||f==133||f==136||f==137)) (ann:=aP) (ae bB (ae bK (ae mP (ae eV (ae jf (ae kV an)))))) (aF dM aC) (eD gI) (OG L k i v hL) (by kernel_rfl)
theorem EA:ll Tryz.prog 66 Tw:=
 mj (m:=fun x=> [.key x.1,.it .i64 x.2.1,.key x.2.2]) LV (fun _=>rfl) (fun _ _=>rfl) (fun x=>aV (inl:=(fun f=>f==134||f==133||f==136||f==137)) (ann:=aP) (ae bB (ae bK (ae mP (ae eV (ae jf (ae kV an)))))) (aF dM aC) (eD gI) (Lz x.1 x.2.1 x.2.2) (by kernel_rfl)) (fun x=>aV (inl:=(fun f=>f==134||f==133||f==136||f==137)) (ann:=aP) (ae bB (ae bK (ae mP (ae eV (ae jf (ae kV an)))))) (aF dM aC) (eD gI) (Md x.1 x.2.1 x.2.2) (by kernel_rfl)) fun L x hL _ _=>PD L x.1 x.2.1 x.2.2 hL
theorem JJ (k:Key):
 true=true/\
  true=true/\
   ((!decide (0<ak []))=true->1=aw [] k 2 true)/\
     ((!decide (0<ak []))=false->
       true=true/\
        ((!(aU [] k&&decide (k.kind=2)))=true->190=aw [] k 2 true)/\
          ((!(aU [] k&&decide (k.kind=2)))=false->
            true=true/\
             ((!decide (bd BinOp.and IntKind.i64 k.rights 3=0))=true->191=aw [] k 2 true)/\
               ((!decide (bd BinOp.and IntKind.i64 k.rights 3=0))=false->
                 true=true/\true=true/\true=true/\0=aw [] k 2 true))):=by
 refine⟨rfl,rfl,fun _=>rfl,fun h=>absurd h (by decide)⟩
theorem Jt (k:Key):
 true=true/\
  true=true/\
   ((!decide (0<ak []))=true->1=aw [] k 2 true)/\
     ((!decide (0<ak []))=false->
       true=true/\
        ((!(aU [] k&&decide (k.kind=2)))=true->190=aw [] k 2 true)/\
          ((!(aU [] k&&decide (k.kind=2)))=false->
            true=true/\
             ((!decide (bd BinOp.and IntKind.i64 k.rights 3=0))=true->191=aw [] k 2 true)/\
               ((!decide (bd BinOp.and IntKind.i64 k.rights 3=0))=false->
                 true=true/\true=true/\true=true/\False))):=by
 refine⟨rfl,rfl,fun _=>rfl,fun h=>absurd h (by decide)⟩
theorem OW (L:List Sx.Obj) (k:Key) (hL:aq L):
 true=true/\
  true=true/\
   ((!decide (0<ak L))=true->1=aw L k 2 true/\L=eM L k)/\
     ((!decide (0<ak L))=false->
       true=true/\
        ((!(aU L k&&decide (k.kind=2)))=true->190=aw L k 2 true/\L=eM L k)/\
          ((!(aU L k&&decide (k.kind=2)))=false->
            true=true/\
             ((!decide (bd BinOp.and IntKind.i64 k.rights 3=0))=true->
               191=aw L k 2 true/\L=eM L k)/\
               ((!decide (bd BinOp.and IntKind.i64 k.rights 3=0))=false->
                 true=true/\
                  true=true/\
                   true=true/\
                    0=aw L k 2 true/\
                     cW L k.oid
                       {kind:=(aa L k).kind,count:=(aa L k).count,calls:=(aa L k).calls,
                        slots:=fV,bytes:=(aa L k).bytes}=
                      eM L k))):=by
 have fin:∀e,aw L k 2 true=e->e≠0->e=aw L k 2 true/\L=eM L k:=fun e h h0=>by
  unfold eM;rw[h,XQ h0];exact⟨rfl,rfl⟩
 refine⟨rfl,rfl,fun h=>fin _ (HH h) (by omega),fun h=>⟨rfl,fun h2=>fin _ (Gw h h2) (by omega),fun h2=>⟨rfl,fun h3=>fin _ (Sm h h2 h3) (by omega),fun h3=>⟨rfl,rfl,rfl,?_⟩⟩⟩⟩
 obtain⟨a1,a2⟩:=mF h2;have hp:=(nX hL a1 a2 (FP (by omega))).1
 unfold eM;rw[Hv h h2 h3,XR rfl,<-hp];exact⟨rfl,rfl⟩
theorem Nv (L:List Sx.Obj) (k:Key) (hL:aq L):ai Tryz.prog 69 [.lp 0 0,.key k] [.store tS eS L] (CP (.it .i64 (aw L k 2 true)) (eM L k)) (fun _ _=>False):=
 aV (inl:=(fun f=>f==134||f==133||f==136||f==138)) (ann:=aP) (ae bB (ae bK an)) (aF dM aC) (eD gI) (OW L k hL) (by kernel_rfl)
theorem Pe:ll Tryz.prog 69 Sp:=
 mj (m:=fun x=> [.key x]) Kc (fun _=>rfl) (fun _ _=>rfl) (fun x=>aV (inl:=(fun f=>f==134||f==133||f==136||f==138)) (ann:=aP) (ae bB (ae bK an)) (aF dM aC) (eD gI) (JJ x) (by kernel_rfl)) (fun x=>aV (inl:=(fun f=>f==134||f==133||f==136||f==138)) (ann:=aP) (ae bB (ae bK an)) (aF dM aC) (eD gI) (Jt x) (by kernel_rfl)) fun L x hL _ _=>Nv L x hL
theorem IL (t f:Key):
 true=true/\
  true=true/\
   ((!decide (0<ak []))=true->1=bG [] t f)/\
     ((!decide (0<ak []))=false->
       true=true/\
        ((!(aU [] t&&decide (t.kind=2)))=true->190=bG [] t f)/\
          ((!(aU [] t&&decide (t.kind=2)))=false->
            true=true/\
             ((!decide (bd BinOp.and IntKind.i64 t.rights 3=0))=true->191=bG [] t f)/\
               ((!decide (bd BinOp.and IntKind.i64 t.rights 3=0))=false->
                 true=true/\
                  true=true/\
                   ((!decide (0<ak []))=true->1=bG [] t f)/\
                     ((!decide (0<ak []))=false->
                       true=true/\
                        ((!(aU [] f&&decide (f.kind=2)))=true->190=bG [] t f)/\
                          ((!(aU [] f&&decide (f.kind=2)))=false->
                            true=true/\true=true/\true=true/\False))))):=by
 refine⟨rfl,rfl,fun _=>rfl,fun h=>absurd h (by decide)⟩
theorem LU (t f:Key):
 true=true/\
  true=true/\
   ((!decide (0<ak []))=true->1=bG [] t f)/\
     ((!decide (0<ak []))=false->
       true=true/\
        ((!(aU [] t&&decide (t.kind=2)))=true->190=bG [] t f)/\
          ((!(aU [] t&&decide (t.kind=2)))=false->
            true=true/\
             ((!decide (bd BinOp.and IntKind.i64 t.rights 3=0))=true->191=bG [] t f)/\
               ((!decide (bd BinOp.and IntKind.i64 t.rights 3=0))=false->
                 true=true/\
                  true=true/\
                   ((!decide (0<ak []))=true->1=bG [] t f)/\
                     ((!decide (0<ak []))=false->
                       true=true/\
                        ((!(aU [] f&&decide (f.kind=2)))=true->190=bG [] t f)/\
                          ((!(aU [] f&&decide (f.kind=2)))=false->
                            true=true/\true=true/\true=true/\False))))):=by
 refine⟨rfl,rfl,fun _=>rfl,fun h=>absurd h (by decide)⟩
theorem Qi (L:List Sx.Obj) (t f:Key) (hL:aq L):
 true=true/\
  true=true/\
   ((!decide (0<ak L))=true->1=bG L t f/\L=dZ L t f)/\
     ((!decide (0<ak L))=false->
       true=true/\
        ((!(aU L t&&decide (t.kind=2)))=true->190=bG L t f/\L=dZ L t f)/\
          ((!(aU L t&&decide (t.kind=2)))=false->
            true=true/\
             ((!decide (bd BinOp.and IntKind.i64 t.rights 3=0))=true->
               191=bG L t f/\L=dZ L t f)/\
               ((!decide (bd BinOp.and IntKind.i64 t.rights 3=0))=false->
                 true=true/\
                  true=true/\
                   ((!decide (0<ak L))=true->1=bG L t f/\L=dZ L t f)/\
                     ((!decide (0<ak L))=false->
                       true=true/\
                        ((!(aU L f&&decide (f.kind=2)))=true->
                            190=bG L t f/\L=dZ L t f)/\
                          ((!(aU L f&&decide (f.kind=2)))=false->
                            true=true/\
                             true=true/\
                              true=true/\
                               (∃g,
                                 j6 g/\
                                  0=g/\
                                   L=L/\
                                    t=t/\
                                     f=f/\
                                      t=t/\
                                       aa L t=aa L t/\
                                        t=t/\
                                         aa L t=aa L t/\
                                          aa L t=aa L t/\
                                           t=t/\
                                            f=f/\
                                             aa L f=aa L f/\
                                              f=f/\
                                               aa L f=aa L f/\
                                                aa L f=aa L f/\
                                                 f=f/\
                                                  aa L t=
                                                    en (aa L t)
                                                     (cY L t f g)/\
                                                   t=t)/\
                                ∀(g:Int),
                                 j6 g->
                                  (decide (g<16)=true->
                                    nu f g/\
                                     (0<=g/\g< ↑16)/\
                                      aI IntKind.i64 (g+1)/\
                                       ∃g',
                                        j6 g'/\
                                         ni g'<ni g/\
                                          g+1=g'/\
                                           L=L/\
                                            t=t/\
                                             f=f/\
                                              t=t/\
                                               aa L t=aa L t/\
                                                t=t/\
                                                 aa L t=aa L t/\
                                                  aa L t=aa L t/\
                                                   t=t/\
                                                    f=f/\
                                                     aa L f=aa L f/\
                                                      f=f/\
                                                       aa L f=aa L f/\
                                                        aa L f=aa L f/\
                                                         f=f/\
                                                          {
                                                             kind:=
                                                              (en
                                                                (aa L t)
                                                                (cY L t
                                                                 f
                                                                 g)).kind,
                                                             count:=
                                                              (en
                                                                (aa L t)
                                                                (cY L t
                                                                 f
                                                                 g)).count,
                                                             calls:=
                                                              (en
                                                                (aa L t)
                                                                (cY L t
                                                                 f
                                                                 g)).calls,
                                                             slots:=
                                                              (en
                                                                 (aa
                                                                  L t)
                                                                 (cY
                                                                  L t f
                                                                  g)).slots.put
                                                               g.toNat
                                                               (ij L
                                                                (aa L f)
                                                                f g),
                                                             bytes:=
                                                              (en
                                                                (aa L t)
                                                                (cY L t
                                                                 f
                                                                 g)).bytes}=
                                                            en (aa L t)
                                                             (cY L t f
                                                              g')/\
                                                           t=t)/\
                                   (decide (g<16)=false->
                                    true=true/\
                                     0=bG L t f/\
                                      cW L t.oid (en (aa L t) (cY L t f g))=
                                       dZ L t f)))))):=by
 have fin:∀e,bG L t f=e->e≠0->e=bG L t f/\L=dZ L t f:=fun e h h0=>by
  unfold dZ;rw[h,XQ h0];exact⟨rfl,rfl⟩
 have bad:∀e,aw L t 2 true=e->e≠0->bG L t f=e:=fun e h h0=>by unfold bG;rw[h,XQ h0]
 refine⟨rfl,rfl,fun h=>fin _ (bad _ (HH h) (by omega)) (by omega),fun h=>⟨rfl,fun h2=>fin _ (bad _ (Gw h h2) (by omega)) (by omega),fun h2=>⟨rfl,fun h3=>fin _ (bad _ (Sm h h2 h3) (by omega)) (by omega),fun h3=>⟨rfl,rfl,fun h4=>?_,fun h4=>⟨rfl,fun h5=>fin 190 ?_ (by omega),fun h5=>⟨rfl,rfl,rfl,?_,fun g hg=>⟨fun hlt=>?_,fun hge=>?_⟩⟩⟩⟩⟩⟩⟩
 ·rw[h]at h4;simp at h4
 ·unfold bG;rw[Hv h h2 h3,XR rfl,Gw h h5]
 ·obtain⟨a1,a2⟩:=mF h2;refine⟨0,⟨by omega,by omega⟩,?_⟩
  have:=CE (f:=f) (dB a1).2.2.2.1;repeat' apply And.intro
  all_goals first|rfl|exact this
 ·obtain⟨g0,g1⟩:=hg;have hlt:=XO hlt;obtain⟨a1,a2⟩:=mF h5;have hs:=CA (t:=t) g0 (dB a1).2.2.2.1 (aa L t) fV;refine⟨⟨g0,by omega,(dB a1).1⟩,⟨g0,by omega⟩,by simp only[aI,cg];omega,g+1,⟨by omega,by omega⟩,by unfold ni;omega,?_⟩
  repeat' apply And.intro
  all_goals first|rfl|exact hs
 ·obtain⟨g0,g1⟩:=hg;have hge:=XN hge;have:g=16:=by omega
  subst this;obtain⟨a1,a2⟩:=mF h2;have hE:bG L t f=0:=by unfold bG;rw[Hv h h2 h3,XR rfl,Fo h h5]
  have hp:=(nX hL a1 a2 (wS (f:=f) hL a1 a2 16 (by omega))).1
  unfold dZ;rw[hE,XR rfl];exact⟨rfl,rfl,hp⟩
theorem Po (L:List Sx.Obj) (t f:Key) (hL:aq L):ai Tryz.prog 71 [.lp 0 0,.key t,.key f] [.store tS eS L] (CP (.it .i64 (bG L t f)) (dZ L t f)) (fun _ _=>False):=
 aV (inl:=(fun f=>f==134||f==133||f==136||f==139)) (ann:=(jC [(139,1,U7 [0,1,2] (fun g=> [(4,.it .i64 g)]) 0 (XE L t f) j6 ni)])) (ae bB (ae bK (ae mP an))) (aF dM aC) (eD gI) (Qi L t f hL) (by kernel_rfl)
theorem Om:ll Tryz.prog 71 SJ:=
 mj (m:=fun x=> [.key x.1,.key x.2]) ES (fun _=>rfl) (fun _ _=>rfl) (fun x=>aV (inl:=(fun f=>f==134||f==133||f==136||f==139)) (ann:=aP) (ae bB (ae bK (ae mP an))) (aF dM aC) (eD gI) (IL x.1 x.2) (by kernel_rfl)) (fun x=>aV (inl:=(fun f=>f==134||f==133||f==136||f==139)) (ann:=aP) (ae bB (ae bK (ae mP an))) (aF dM aC) (eD gI) (LU x.1 x.2) (by kernel_rfl)) fun L x hL _ _=>Po L x.1 x.2 hL
end Go.Proofs.YtghpaegglbbocaaGreat
