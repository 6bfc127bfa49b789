import Derived.Test.YtghpaegglbbocaaGreatKS
import Derived.Test.YtghpaegglbbocaaGreatCV
set_option linter.unusedSimpArgs false
set_option linter.unusedVariables false
namespace Go.Proofs.YtghpaegglbbocaaGreat
open Go.Sx
set_option maxRecDepth 100000
theorem HQ (k:Key):
 ((bg []|| !decide (bf k=0))=true->void=ae [] k)/\
   ((bg []|| !decide (bf k=0))=false->
     ((aU k&& !aM [] k)=true->void=ae [] k)/\((aU k&& !aM [] k)=false->k=ae [] k)):=by
 exact Ac [] k
theorem Ie (L:List Sx.Obj) (k:Key):
 ((bg L|| !decide (bf k=0))=true->void=ae L k)/\
   ((bg L|| !decide (bf k=0))=false->
     ((aU k&& !aM L k)=true->void=ae L k)/\((aU k&& !aM L k)=false->k=ae L k)):=by
 exact Ac L k
theorem jH:cW Tryz.prog 22 PB:=
 tQ fO (fun _ _=>rfl) (fun x _=>bh (inl:=bM) (ann:=aL) (ab mO (ab ia (ab dX (ab bp ak)))) (HQ x) (by kernel_rfl)) (fun L x _ _ _=>bh (inl:=bM) (ann:=aL) (ab mO (ab ia (ab dX (ab bp ak)))) (Ie L x) (by kernel_rfl)) fun _=>rfl
end Go.Proofs.YtghpaegglbbocaaGreat
namespace Go.Sx
def Sy (nid:Nat):V:= .mp nid
def R9 (nid:Nat):List aw:= [.mp .i64 [2,3,1,8] [.fn 201 [.lp (nid+1) 0],.fn 201 [.lp (nid+1+1) 0],.fn 199 [],.fn 199 []],
 .blk 23 (.ci .i64 3),.blk 23 (.ci .i64 1)]
def tN:Nat:=166
def Tc (L:List Obj) (t f:Key) (g:Int):aw:= .blk tN (.ag [.ob (gp (aa L t) (eZ L t f g)),.lp 0 0,.key t])
end Go.Sx
namespace Go.Proofs.YtghpaegglbbocaaGreat
open Go.Sx
set_option maxRecDepth 100000
theorem Mx:
 true=true/\
 true=true/\
  ∀(nid:Nat),some (Sy nid)=some (Sy nid)/\some (R9 nid)=some (R9 nid):=by
 exact⟨rfl,rfl,fun nid=>⟨rfl,rfl⟩⟩
theorem L6:cW Tryz.prog 193 (A9 Sy R9):=u9 (π:= [0,1,2]) (by decide) (fun _=>rfl) (cg (inl:=(fun f=>f==200)) (ann:=aL) ak aA Mx (by kernel_rfl))
theorem Jd (r m:Int) (hr:cy .i64 r) (hm0:cy .i64 m):
 (∃g,sf g/\r=r/\m=m/\0=eQ r m g/\1=g)/\
  ∀(g:Int),
   sf g->
    (decide (g<=4)=true->
      (wY g/\aQ IntKind.i64 (r.tdiv g))/\
       (wY 2/\aQ IntKind.i64 ((r.tdiv g).tmod 2))/\
        ((!decide ((r.tdiv g).tmod 2=1))=true->wY g/\aQ IntKind.i64 (m.tdiv g))/\
          ((!decide ((r.tdiv g).tmod 2=1))=true->wY 2/\aQ IntKind.i64 ((m.tdiv g).tmod 2))/\
            ((decide ((r.tdiv g).tmod 2=1)||decide ((m.tdiv g).tmod 2=1))=true->
              aQ IntKind.i64 (eQ r m g+g)/\
               aQ IntKind.i64 (g*2)/\
                ∃g',
                 sf g'/\
                  (8-g').toNat<(8-g).toNat/\
                   r=r/\m=m/\eQ r m g+g=eQ r m g'/\g*2=g')/\
              ((decide ((r.tdiv g).tmod 2=1)||decide ((m.tdiv g).tmod 2=1))=false->
                aQ IntKind.i64 (g*2)/\
                 ∃g',
                  sf g'/\
                   (8-g').toNat<(8-g).toNat/\
                    r=r/\m=m/\eQ r m g=eQ r m g'/\g*2=g'))/\
     (decide (g<=4)=false->eQ r m g=cx r m):=by
 refine⟨⟨1,.inl rfl,rfl,rfl,by simp[eQ],rfl⟩,fun g hg=>⟨fun hlt=>?_,fun hge=>?_⟩⟩
 ·have hlt:=Tl hlt;have hne:wY g:=by unfold wY;rcases hg with rfl|rfl|rfl|rfl<;>omega
  have h2:wY 2:=by unfold wY;omega
  have hs:=uU (r:=r) (m:=m) (g:=g)
  have hn:∃g',sf g'/\(8-g').toNat<(8-g).toNat/\g*2=g':=by
   rcases hg with rfl|rfl|rfl|rfl
   ·exact⟨2,.inr (.inl rfl),by omega,rfl⟩
   ·exact⟨4,.inr (.inr (.inl rfl)),by omega,rfl⟩
   ·exact⟨8,.inr (.inr (.inr rfl)),by omega,rfl⟩
   ·omega
  obtain⟨g',hg1,hg2,rfl⟩:=hn;have hm:aQ IntKind.i64 (g*2):=by simp only[aQ,cy];rcases hg with rfl|rfl|rfl|rfl<;>omega
  refine⟨⟨hne,DS hr hg⟩,⟨h2,Au _⟩,fun _=>⟨hne,DS hm0 hg⟩,fun _=>⟨h2,Au _⟩,fun h=>⟨by simp only[aQ,cy];omega,hm,_,hg1,hg2,rfl,rfl,?_,rfl⟩,fun h=>⟨hm,_,hg1,hg2,rfl,rfl,?_,rfl⟩⟩
  ·rcases hg with rfl|rfl|rfl|rfl
   ·simp[eQ,ff]at h⊢;grind
   ·simp[eQ,ff]at h⊢;grind
   ·simp[eQ,ff]at h⊢;grind
   ·omega
  ·rcases hg with rfl|rfl|rfl|rfl
   ·simp[eQ,ff,h]at h⊢ <;>grind
   ·simp[eQ,ff,h]at h⊢ <;>grind
   ·simp[eQ,ff,h]at h⊢ <;>grind
   ·omega
 ·have hge:=Tk hge;rcases hg with rfl|rfl|rfl|rfl<;>first|rfl|omega
theorem Iz:cW Tryz.prog 29 Mi:=
 oI (fF .i64) (fF .i64) (fun _ _=>rfl) fun r m hr hm=>bh (inl:=bM) (ann:=(me [(29,3,PX [0,1,4] (fun g=> [(5,.it .i64 (eQ r m g)),(6,.it .i64 g)]) sf 8)])) ak (Jd r m hr hm) (by kernel_rfl)
theorem EV (k:Key):
 ((!decide (bf k=0))=true->void=fK k/\2=bf k)/\
   ((!decide (bf k=0))=false->
     ((decide (k.kind=2)||(decide (k.kind=3)||(decide (k.kind=1)||decide (k.kind=8))))=true->
       (decide (k.kind=2)=true->
         true=true/\
          {kind:=k.kind,oid:=k.oid,count:=k.count,call:=k.call,
             rights:=aO BinOp.or IntKind.i64 k.rights 3,value:=k.value}=
           fK k/\
           0=bf k)/\
        (decide (k.kind=2)=false->
         (decide (k.kind=3)=true->
           true=true/\
            {kind:=k.kind,oid:=k.oid,count:=k.count,call:=k.call,
               rights:=aO BinOp.or IntKind.i64 k.rights 1,value:=k.value}=
             fK k/\
             0=bf k)/\
          (decide (k.kind=3)=false->
           (decide (k.kind=1)=true->true=true/\k=fK k/\0=bf k)/\
            (decide (k.kind=1)=false->
             (decide (k.kind=8)=true->true=true/\k=fK k/\0=bf k)/\
              (decide (k.kind=8)=false->False)))))/\
       ((decide (k.kind=2)||(decide (k.kind=3)||(decide (k.kind=1)||decide (k.kind=8))))=false->
         void=fK k/\0=bf k)):=by
 unfold fK bf;cases hok:aB k
 ·simp
 have hr:=eR hok;have o3:k.kind=2->aO BinOp.or IntKind.i64 k.rights 3=cx k.rights 3:=fun e=>Gb hr.1 (by rw[e]at hr;exact hr.2)
 have o1:k.kind=3->aO BinOp.or IntKind.i64 k.rights 1=1:=fun e=>zK hr.1 (by rw[e]at hr;exact hr.2)
 unfold mU bR;grind
theorem wG:cW Tryz.prog 184 Ht:=
 p5 fO (fun _=>rfl) fun k hk=>cg (inl:=(fun f=>f==201||f==199)) (ann:=aL) (ab ia (ab L6 ak)) aA (EV k) (by kernel_rfl)
end Go.Proofs.YtghpaegglbbocaaGreat
namespace Go.Proofs.YtghpaegglbbocaaGreat
open Go.Sx
set_option maxRecDepth 100000
theorem G0 (o:Sx.Obj) (k:Key) (i:Int) (hq:lS k i):
 (0<=i/\i< ↑16)/\
  ((!decide (aO BinOp.and IntKind.i64 k.rights 2=0))=true->
    fK (ae [] (o.slots.at i.toNat))=gW [] o k i)/\
    ((!decide (aO BinOp.and IntKind.i64 k.rights 2=0))=false->
      ae [] (o.slots.at i.toNat)=gW [] o k i):=by
 exact CY hq
theorem Mc (o:Sx.Obj) (L:List Sx.Obj) (k:Key) (i:Int) (hq:lS k i):
 (0<=i/\i< ↑16)/\
  ((!decide (aO BinOp.and IntKind.i64 k.rights 2=0))=true->
    fK (ae L (o.slots.at i.toNat))=gW L o k i)/\
    ((!decide (aO BinOp.and IntKind.i64 k.rights 2=0))=false->ae L (o.slots.at i.toNat)=gW L o k i):=by
 exact CY hq
theorem lA:cW Tryz.prog 135 OI:=
 kY (aY (Pe Ra) (aY j6 fz)) (fun _=>rfl) fun a hq hok=>by
  obtain⟨⟨o,S,k,_⟩,i,_⟩:=a;cases S with
  |none=>exact bh (inl:=bM) (ann:=aL) (ab jH (ab wG ak)) (G0 o k i hq) (by kernel_rfl)
  |some L=>exact bh (inl:=bM) (ann:=aL) (ab jH (ab wG ak)) (Mc o L k i hq) (by kernel_rfl)
theorem Gr (k:Key) (i:Int):
 true=true/\
  true=true/\
   ((!decide (0<ah []))=true->void=aC [] k i/\1=bF [] k i)/\
     ((!decide (0<ah []))=false->
       true=true/\
        ((!(aM [] k&&decide (k.kind=2)))=true->void=aC [] k i/\190=bF [] k i)/\
          ((!(aM [] k&&decide (k.kind=2)))=false->
            true=true/\
             true=true/\
              ((!(decide (0<=i)&&decide (i<16)))=true->void=aC [] k i/\4=bF [] k i)/\
                ((!(decide (0<=i)&&decide (i<16)))=false->
                  lS k i/\gW [] (aa [] k) k i=aC [] k i/\0=bF [] k i))):=by
 have hE:∀e,aJ [] k 2 false=e->e≠0->void=aC [] k i/\e=bF [] k i:=fun e h h0=>by
  unfold aC bF;rw[h,Tn h0,Tn h0];exact⟨rfl,rfl⟩
 refine⟨rfl,rfl,fun h=>hE _ ?_ (by omega),fun h=>⟨rfl,fun h2=>hE _ ?_ (by omega),fun h2=>⟨rfl,rfl,fun h3=>?_,fun h3=>?_⟩⟩⟩
 ·unfold aJ;unfold ah at h;rw[To (by simp at h;omega)]
 ·unfold aJ;unfold ah at h;rw[Tn (by simp at h;omega),To (by simpa using h2)]
 ·have hA:aJ [] k 2 false=0:=by
   unfold aJ;unfold ah at h;rw[Tn (by simp at h;omega),Tn (by simpa using h2),Tn (by simp)]
  rw[Bool.not_eq_true']at h3;unfold aC bF jS;rw[hA,To rfl,h3];exact⟨rfl,rfl⟩
 ·have hA:aJ [] k 2 false=0:=by
   unfold aJ;unfold ah at h;rw[Tn (by simp at h;omega),Tn (by simpa using h2),Tn (by simp)]
  obtain⟨a1,_,_⟩:=iz hA;obtain⟨b1,b2,b3,b4,_⟩:=ea a1;rw[Bool.not_eq_false']at h3;have h3':0<=i/\i<16:=by simpa using h3
  unfold aC bF jS;rw[hA,To rfl,h3,To rfl,To rfl,b4];exact⟨⟨h3'.1,h3'.2,b1⟩,rfl,rfl⟩
theorem LO (L:List Sx.Obj) (k:Key) (i:Int):
 true=true/\
  true=true/\
   ((!decide (0<ah L))=true->void=aC L k i/\1=bF L k i)/\
     ((!decide (0<ah L))=false->
       true=true/\
        ((!(aM L k&&decide (k.kind=2)))=true->void=aC L k i/\190=bF L k i)/\
          ((!(aM L k&&decide (k.kind=2)))=false->
            true=true/\
             true=true/\
              ((!(decide (0<=i)&&decide (i<16)))=true->void=aC L k i/\4=bF L k i)/\
                ((!(decide (0<=i)&&decide (i<16)))=false->
                  lS k i/\gW L (aa L k) k i=aC L k i/\0=bF L k i))):=by
 have hE:∀e,aJ L k 2 false=e->e≠0->void=aC L k i/\e=bF L k i:=fun e h h0=>by
  unfold aC bF;rw[h,Tn h0,Tn h0];exact⟨rfl,rfl⟩
 refine⟨rfl,rfl,fun h=>hE _ ?_ (by omega),fun h=>⟨rfl,fun h2=>hE _ ?_ (by omega),fun h2=>⟨rfl,rfl,fun h3=>?_,fun h3=>?_⟩⟩⟩
 ·unfold aJ;unfold ah at h;rw[To (by simp at h;omega)]
 ·unfold aJ;unfold ah at h;rw[Tn (by simp at h;omega),To (by simpa using h2)]
 ·have hA:aJ L k 2 false=0:=by
   unfold aJ;unfold ah at h;rw[Tn (by simp at h;omega),Tn (by simpa using h2),Tn (by simp)]
  rw[Bool.not_eq_true']at h3;unfold aC bF jS;rw[hA,To rfl,h3];exact⟨rfl,rfl⟩
 ·have hA:aJ L k 2 false=0:=by
   unfold aJ;unfold ah at h;rw[Tn (by simp at h;omega),Tn (by simpa using h2),Tn (by simp)]
  obtain⟨a1,_,_⟩:=iz hA;obtain⟨b1,b2,b3,b4,_⟩:=ea a1;rw[Bool.not_eq_false']at h3;have h3':0<=i/\i<16:=by simpa using h3
  unfold aC bF jS;rw[hA,To rfl,h3,To rfl,To rfl,b4];exact⟨⟨h3'.1,h3'.2,b1⟩,rfl,rfl⟩
theorem pc:cW Tryz.prog 63 OT:=
 kY (aY rf (aY mF (aY j6 fz))) (fun _=>rfl) fun a hq hok=>by
  obtain⟨S,k,i,_⟩:=a;cases S with
  |none=>exact aK (inl:=(fun f=>f==134||f==133)) (ann:=aL) (ab aX (ab bp (ab lA ak))) aA (dO fT) (Gr k i) (by kernel_rfl)
  |some L=>exact aK (inl:=(fun f=>f==134||f==133)) (ann:=aL) (ab aX (ab bp (ab lA ak))) aA (dO fT) (LO L k i) (by kernel_rfl)
end Go.Proofs.YtghpaegglbbocaaGreat
namespace Go.Proofs.YtghpaegglbbocaaGreat
open Go.Sx
set_option maxRecDepth 100000
theorem Hq (k:Key) (i:Int) (v:Key):
 true=true/\
  true=true/\
   ((!decide (0<ah []))=true->void=c8 [] k i v/\1=bk [] k i v)/\
     ((!decide (0<ah []))=false->
       true=true/\
        ((!(aM [] k&&decide (k.kind=2)))=true->void=c8 [] k i v/\190=bk [] k i v)/\
          ((!(aM [] k&&decide (k.kind=2)))=false->
            true=true/\
             ((!decide (aO BinOp.and IntKind.i64 k.rights 3=0))=true->
               void=c8 [] k i v/\191=bk [] k i v)/\
               ((!decide (aO BinOp.and IntKind.i64 k.rights 3=0))=false->
                 true=true/\
                  ((!(decide (0<=i)&&decide (i<16)))=true->
                      void=c8 [] k i v/\4=bk [] k i v)/\
                    ((!(decide (0<=i)&&decide (i<16)))=false->
                      true=true/\
                       ((!(decide (bf v=0)&&(!aU v||decide (bW v<ah []))))=true->
                           void=c8 [] k i v/\2=bk [] k i v)/\
                         ((!(decide (bf v=0)&&(!aU v||decide (bW v<ah []))))=false->
                           lS k i/\
                            true=true/\
                             true=true/\
                              (0<=i/\i< ↑16)/\
                               true=true/\
                                gW [] (aa [] k) k i=c8 [] k i v/\0=bk [] k i v))))):=by
 refine⟨rfl,rfl,fun _=>⟨rfl,rfl⟩,fun h=>absurd h (by decide)⟩
theorem Fq (k:Key) (i:Int) (v:Key):
 true=true/\
  true=true/\
   ((!decide (0<ah []))=true->void=c8 [] k i v/\1=bk [] k i v)/\
     ((!decide (0<ah []))=false->
       true=true/\
        ((!(aM [] k&&decide (k.kind=2)))=true->void=c8 [] k i v/\190=bk [] k i v)/\
          ((!(aM [] k&&decide (k.kind=2)))=false->
            true=true/\
             ((!decide (aO BinOp.and IntKind.i64 k.rights 3=0))=true->
               void=c8 [] k i v/\191=bk [] k i v)/\
               ((!decide (aO BinOp.and IntKind.i64 k.rights 3=0))=false->
                 true=true/\
                  ((!(decide (0<=i)&&decide (i<16)))=true->
                      void=c8 [] k i v/\4=bk [] k i v)/\
                    ((!(decide (0<=i)&&decide (i<16)))=false->
                      true=true/\
                       ((!(decide (bf v=0)&&(!aU v||decide (bW v<ah []))))=true->
                           void=c8 [] k i v/\2=bk [] k i v)/\
                         ((!(decide (bf v=0)&&(!aU v||decide (bW v<ah []))))=false->
                           lS k i/\true=true/\true=true/\(0<=i/\i< ↑16)/\true=true/\False))))):=by
 refine⟨rfl,rfl,fun _=>⟨rfl,rfl⟩,fun h=>absurd h (by decide)⟩
theorem KY (L:List Sx.Obj) (k:Key) (i:Int) (v:Key) (hL:an L):
 true=true/\
  true=true/\
   ((!decide (0<ah L))=true->(void=c8 L k i v/\1=bk L k i v)/\L=cG L k i v)/\
     ((!decide (0<ah L))=false->
       true=true/\
        ((!(aM L k&&decide (k.kind=2)))=true->
            (void=c8 L k i v/\190=bk L k i v)/\L=cG L k i v)/\
          ((!(aM L k&&decide (k.kind=2)))=false->
            true=true/\
             ((!decide (aO BinOp.and IntKind.i64 k.rights 3=0))=true->
               (void=c8 L k i v/\191=bk L k i v)/\L=cG L k i v)/\
               ((!decide (aO BinOp.and IntKind.i64 k.rights 3=0))=false->
                 true=true/\
                  ((!(decide (0<=i)&&decide (i<16)))=true->
                      (void=c8 L k i v/\4=bk L k i v)/\L=cG L k i v)/\
                    ((!(decide (0<=i)&&decide (i<16)))=false->
                      true=true/\
                       ((!(decide (bf v=0)&&(!aU v||decide (bW v<ah L))))=true->
                           (void=c8 L k i v/\2=bk L k i v)/\L=cG L k i v)/\
                         ((!(decide (bf v=0)&&(!aU v||decide (bW v<ah L))))=false->
                           lS k i/\
                            true=true/\
                             true=true/\
                              (0<=i/\i< ↑16)/\
                               true=true/\
                                (gW L (aa L k) k i=c8 L k i v/\0=bk L k i v)/\
                                 cc L k.oid
                                   {kind:=(aa L k).kind,count:=(aa L k).count,
                                    calls:=(aa L k).calls,
                                    slots:=(aa L k).slots.put i.toNat (ae L v),
                                    bytes:=(aa L k).bytes}=
                                  cG L k i v))))):=by
 have fin:∀e,bk L k i v=e->e≠0->(void=c8 L k i v/\e=bk L k i v)/\L=cG L k i v:=fun e h h0=>by
  unfold c8 cG;rw[h,Tn h0,Tn h0];exact⟨⟨rfl,rfl⟩,rfl⟩
 have bad:∀e,aJ L k 2 true=e->e≠0->bk L k i v=e:=fun e h h0=>by unfold bk;rw[h,Tn h0]
 refine⟨rfl,rfl,fun h=>fin _ (bad _ (Jl h) (by omega)) (by omega),fun h=>⟨rfl,fun h2=>fin _ (bad _ (ED h h2) (by omega)) (by omega),fun h2=>⟨rfl,fun h3=>fin _ (bad _ (N3 h h2 h3) (by omega)) (by omega),fun h3=>⟨rfl,fun h4=>fin 4 ?_ (by omega),fun h4=>⟨rfl,fun h5=>fin 2 ?_ (by omega),fun h5=>?_⟩⟩⟩⟩⟩
 ·rw[Bool.not_eq_true']at h4;unfold bk jS;rw[Eb h h2 h3,To rfl,h4];rfl
 ·rw[Bool.not_eq_false']at h4;have hm:eH L v=false:=by rw[<-yy];rw[Bool.not_eq_true']at h5;exact h5
  unfold bk jS;rw[Eb h h2 h3,To rfl,h4,hm];rfl
 ·rw[Bool.not_eq_false']at h4;have h4':0<=i/\i<16:=by simpa using h4
  have hm:eH L v=true:=by rw[<-yy];rw[Bool.not_eq_false']at h5;exact h5
  have hE:bk L k i v=0:=by
   unfold bk jS;rw[Eb h h2 h3,To rfl,h4,hm];rfl
  obtain⟨a1,a2⟩:=kQ h2;obtain⟨b1,b2,b3,b4,_⟩:=ea a1;have hp:=(mD hL a1 a2 (AZ (v:=v) hL a1 a2 h4'.1 h4'.2)).1;unfold c8 cG;rw[hE,To rfl,To rfl,<-hp,b4];exact⟨⟨h4'.1,h4'.2,b1⟩,rfl,rfl,⟨h4'.1,by omega⟩,rfl,⟨rfl,rfl⟩,rfl⟩
theorem L2 (L:List Sx.Obj) (k:Key) (i:Int) (v:Key) (hL:an L):ai Tryz.prog 66 [.lp 0 0,.key k,.it .i64 i,.key v] [.store tS eS L] (zO (.tp [.key (c8 L k i v),.it .i64 (bk L k i v)]) (cG L k i v)) (fun _ _=>False):=
 aK (inl:=(fun f=>f==134||f==133||f==136||f==137)) (ann:=aL) (ab aX (ab bp (ab lA (ab dX (ab ia (ab jH ak)))))) (aG c9 aA) (dO fT) (KY L k i v hL) (by kernel_rfl)
theorem Dv:ql Tryz.prog 66 Pf:=
 lh (m:=fun x=> [.key x.1,.it .i64 x.2.1,.key x.2.2]) Hj (fun _=>rfl) (fun _ _=>rfl) (fun x=>aK (inl:=(fun f=>f==134||f==133||f==136||f==137)) (ann:=aL) (ab aX (ab bp (ab lA (ab dX (ab ia (ab jH ak)))))) (aG c9 aA) (dO fT) (Hq x.1 x.2.1 x.2.2) (by kernel_rfl)) (fun x=>aK (inl:=(fun f=>f==134||f==133||f==136||f==137)) (ann:=aL) (ab aX (ab bp (ab lA (ab dX (ab ia (ab jH ak)))))) (aG c9 aA) (dO fT) (Fq x.1 x.2.1 x.2.2) (by kernel_rfl)) fun L x hL _ _=>L2 L x.1 x.2.1 x.2.2 hL
theorem Hn (k:Key):
 true=true/\
  true=true/\
   ((!decide (0<ah []))=true->1=aJ [] k 2 true)/\
     ((!decide (0<ah []))=false->
       true=true/\
        ((!(aM [] k&&decide (k.kind=2)))=true->190=aJ [] k 2 true)/\
          ((!(aM [] k&&decide (k.kind=2)))=false->
            true=true/\
             ((!decide (aO BinOp.and IntKind.i64 k.rights 3=0))=true->191=aJ [] k 2 true)/\
               ((!decide (aO BinOp.and IntKind.i64 k.rights 3=0))=false->
                 true=true/\true=true/\true=true/\0=aJ [] k 2 true))):=by
 refine⟨rfl,rfl,fun _=>rfl,fun h=>absurd h (by decide)⟩
theorem Ig (k:Key):
 true=true/\
  true=true/\
   ((!decide (0<ah []))=true->1=aJ [] k 2 true)/\
     ((!decide (0<ah []))=false->
       true=true/\
        ((!(aM [] k&&decide (k.kind=2)))=true->190=aJ [] k 2 true)/\
          ((!(aM [] k&&decide (k.kind=2)))=false->
            true=true/\
             ((!decide (aO BinOp.and IntKind.i64 k.rights 3=0))=true->191=aJ [] k 2 true)/\
               ((!decide (aO BinOp.and IntKind.i64 k.rights 3=0))=false->
                 true=true/\true=true/\true=true/\False))):=by
 refine⟨rfl,rfl,fun _=>rfl,fun h=>absurd h (by decide)⟩
theorem KD (L:List Sx.Obj) (k:Key) (hL:an L):
 true=true/\
  true=true/\
   ((!decide (0<ah L))=true->1=aJ L k 2 true/\L=fe L k)/\
     ((!decide (0<ah L))=false->
       true=true/\
        ((!(aM L k&&decide (k.kind=2)))=true->190=aJ L k 2 true/\L=fe L k)/\
          ((!(aM L k&&decide (k.kind=2)))=false->
            true=true/\
             ((!decide (aO BinOp.and IntKind.i64 k.rights 3=0))=true->
               191=aJ L k 2 true/\L=fe L k)/\
               ((!decide (aO BinOp.and IntKind.i64 k.rights 3=0))=false->
                 true=true/\
                  true=true/\
                   true=true/\
                    0=aJ L k 2 true/\
                     cc L k.oid
                       {kind:=(aa L k).kind,count:=(aa L k).count,calls:=(aa L k).calls,
                        slots:=fH,bytes:=(aa L k).bytes}=
                      fe L k))):=by
 have fin:∀e,aJ L k 2 true=e->e≠0->e=aJ L k 2 true/\L=fe L k:=fun e h h0=>by
  unfold fe;rw[h,Tn h0];exact⟨rfl,rfl⟩
 refine⟨rfl,rfl,fun h=>fin _ (Jl h) (by omega),fun h=>⟨rfl,fun h2=>fin _ (ED h h2) (by omega),fun h2=>⟨rfl,fun h3=>fin _ (N3 h h2 h3) (by omega),fun h3=>⟨rfl,rfl,rfl,?_⟩⟩⟩⟩
 obtain⟨a1,a2⟩:=kQ h2;have hp:=(mD hL a1 a2 (CZ (by omega))).1
 unfold fe;rw[Eb h h2 h3,To rfl,<-hp];exact⟨rfl,rfl⟩
theorem Ko (L:List Sx.Obj) (k:Key) (hL:an L):ai Tryz.prog 69 [.lp 0 0,.key k] [.store tS eS L] (zO (.it .i64 (aJ L k 2 true)) (fe L k)) (fun _ _=>False):=
 aK (inl:=(fun f=>f==134||f==133||f==136||f==138)) (ann:=aL) (ab aX (ab bp ak)) (aG c9 aA) (dO fT) (KD L k hL) (by kernel_rfl)
theorem KV:ql Tryz.prog 69 N1:=
 lh (m:=fun x=> [.key x]) Jn (fun _=>rfl) (fun _ _=>rfl) (fun x=>aK (inl:=(fun f=>f==134||f==133||f==136||f==138)) (ann:=aL) (ab aX (ab bp ak)) (aG c9 aA) (dO fT) (Hn x) (by kernel_rfl)) (fun x=>aK (inl:=(fun f=>f==134||f==133||f==136||f==138)) (ann:=aL) (ab aX (ab bp ak)) (aG c9 aA) (dO fT) (Ig x) (by kernel_rfl)) fun L x hL _ _=>Ko L x hL
theorem Ha (t f:Key):
 true=true/\
  true=true/\
   ((!decide (0<ah []))=true->1=bZ [] t f)/\
     ((!decide (0<ah []))=false->
       true=true/\
        ((!(aM [] t&&decide (t.kind=2)))=true->190=bZ [] t f)/\
          ((!(aM [] t&&decide (t.kind=2)))=false->
            true=true/\
             ((!decide (aO BinOp.and IntKind.i64 t.rights 3=0))=true->191=bZ [] t f)/\
               ((!decide (aO BinOp.and IntKind.i64 t.rights 3=0))=false->
                 true=true/\
                  true=true/\
                   ((!decide (0<ah []))=true->1=bZ [] t f)/\
                     ((!decide (0<ah []))=false->
                       true=true/\
                        ((!(aM [] f&&decide (f.kind=2)))=true->190=bZ [] t f)/\
                          ((!(aM [] f&&decide (f.kind=2)))=false->
                            true=true/\true=true/\true=true/\False))))):=by
 refine⟨rfl,rfl,fun _=>rfl,fun h=>absurd h (by decide)⟩
theorem Jo (t f:Key):
 true=true/\
  true=true/\
   ((!decide (0<ah []))=true->1=bZ [] t f)/\
     ((!decide (0<ah []))=false->
       true=true/\
        ((!(aM [] t&&decide (t.kind=2)))=true->190=bZ [] t f)/\
          ((!(aM [] t&&decide (t.kind=2)))=false->
            true=true/\
             ((!decide (aO BinOp.and IntKind.i64 t.rights 3=0))=true->191=bZ [] t f)/\
               ((!decide (aO BinOp.and IntKind.i64 t.rights 3=0))=false->
                 true=true/\
                  true=true/\
                   ((!decide (0<ah []))=true->1=bZ [] t f)/\
                     ((!decide (0<ah []))=false->
                       true=true/\
                        ((!(aM [] f&&decide (f.kind=2)))=true->190=bZ [] t f)/\
                          ((!(aM [] f&&decide (f.kind=2)))=false->
                            true=true/\true=true/\true=true/\False))))):=by
 refine⟨rfl,rfl,fun _=>rfl,fun h=>absurd h (by decide)⟩
theorem KO (L:List Sx.Obj) (t f:Key) (hL:an L):
 true=true/\
  true=true/\
   ((!decide (0<ah L))=true->1=bZ L t f/\L=eA L t f)/\
     ((!decide (0<ah L))=false->
       true=true/\
        ((!(aM L t&&decide (t.kind=2)))=true->190=bZ L t f/\L=eA L t f)/\
          ((!(aM L t&&decide (t.kind=2)))=false->
            true=true/\
             ((!decide (aO BinOp.and IntKind.i64 t.rights 3=0))=true->
               191=bZ L t f/\L=eA L t f)/\
               ((!decide (aO BinOp.and IntKind.i64 t.rights 3=0))=false->
                 true=true/\
                  true=true/\
                   ((!decide (0<ah L))=true->1=bZ L t f/\L=eA L t f)/\
                     ((!decide (0<ah L))=false->
                       true=true/\
                        ((!(aM L f&&decide (f.kind=2)))=true->
                            190=bZ L t f/\L=eA L t f)/\
                          ((!(aM L f&&decide (f.kind=2)))=false->
                            true=true/\
                             true=true/\
                              true=true/\
                               (∃g,
                                 tU g/\
                                  0=g/\
                                   L=L/\
                                    t=t/\
                                     f=f/\
                                      t=t/\
                                       aa L t=aa L t/\
                                        t=t/\
                                         aa L t=aa L t/\
                                          aa L t=aa L t/\
                                           t=t/\
                                            f=f/\
                                             aa L f=aa L f/\
                                              f=f/\
                                               aa L f=aa L f/\
                                                aa L f=aa L f/\
                                                 f=f/\
                                                  aa L t=
                                                    gp (aa L t)
                                                     (eZ L t f g)/\
                                                   t=t)/\
                                ∀(g:Int),
                                 tU g->
                                  (decide (g<16)=true->
                                    lS f g/\
                                     (0<=g/\g< ↑16)/\
                                      aQ IntKind.i64 (g+1)/\
                                       ∃g',
                                        tU g'/\
                                         yV g'<yV g/\
                                          g+1=g'/\
                                           L=L/\
                                            t=t/\
                                             f=f/\
                                              t=t/\
                                               aa L t=aa L t/\
                                                t=t/\
                                                 aa L t=aa L t/\
                                                  aa L t=aa L t/\
                                                   t=t/\
                                                    f=f/\
                                                     aa L f=aa L f/\
                                                      f=f/\
                                                       aa L f=aa L f/\
                                                        aa L f=aa L f/\
                                                         f=f/\
                                                          {
                                                             kind:=
                                                              (gp
                                                                (aa L t)
                                                                (eZ L t
                                                                 f
                                                                 g)).kind,
                                                             count:=
                                                              (gp
                                                                (aa L t)
                                                                (eZ L t
                                                                 f
                                                                 g)).count,
                                                             calls:=
                                                              (gp
                                                                (aa L t)
                                                                (eZ L t
                                                                 f
                                                                 g)).calls,
                                                             slots:=
                                                              (gp
                                                                 (aa
                                                                  L t)
                                                                 (eZ
                                                                  L t f
                                                                  g)).slots.put
                                                               g.toNat
                                                               (gW L
                                                                (aa L f)
                                                                f g),
                                                             bytes:=
                                                              (gp
                                                                (aa L t)
                                                                (eZ L t
                                                                 f
                                                                 g)).bytes}=
                                                            gp (aa L t)
                                                             (eZ L t f
                                                              g')/\
                                                           t=t)/\
                                   (decide (g<16)=false->
                                    true=true/\
                                     0=bZ L t f/\
                                      cc L t.oid (gp (aa L t) (eZ L t f g))=
                                       eA L t f)))))):=by
 have fin:∀e,bZ L t f=e->e≠0->e=bZ L t f/\L=eA L t f:=fun e h h0=>by
  unfold eA;rw[h,Tn h0];exact⟨rfl,rfl⟩
 have bad:∀e,aJ L t 2 true=e->e≠0->bZ L t f=e:=fun e h h0=>by unfold bZ;rw[h,Tn h0]
 refine⟨rfl,rfl,fun h=>fin _ (bad _ (Jl h) (by omega)) (by omega),fun h=>⟨rfl,fun h2=>fin _ (bad _ (ED h h2) (by omega)) (by omega),fun h2=>⟨rfl,fun h3=>fin _ (bad _ (N3 h h2 h3) (by omega)) (by omega),fun h3=>⟨rfl,rfl,fun h4=>?_,fun h4=>⟨rfl,fun h5=>fin 190 ?_ (by omega),fun h5=>⟨rfl,rfl,rfl,?_,fun g hg=>⟨fun hlt=>?_,fun hge=>?_⟩⟩⟩⟩⟩⟩⟩
 ·rw[h]at h4;simp at h4
 ·unfold bZ;rw[Eb h h2 h3,To rfl,ED h h5]
 ·obtain⟨a1,a2⟩:=kQ h2;refine⟨0,⟨by omega,by omega⟩,?_⟩
  have:=JL (f:=f) (ea a1).2.2.2.1;repeat' apply And.intro
  all_goals first|rfl|exact this
 ·obtain⟨g0,g1⟩:=hg;have hlt:=Tl hlt;obtain⟨a1,a2⟩:=kQ h5;have hs:=HV (t:=t) g0 (ea a1).2.2.2.1 (aa L t) fH;refine⟨⟨g0,by omega,(ea a1).1⟩,⟨g0,by omega⟩,by simp only[aQ,cy];omega,g+1,⟨by omega,by omega⟩,by unfold yV;omega,?_⟩
  repeat' apply And.intro
  all_goals first|rfl|exact hs
 ·obtain⟨g0,g1⟩:=hg;have hge:=Tk hge;have:g=16:=by omega
  subst this;obtain⟨a1,a2⟩:=kQ h2;have hE:bZ L t f=0:=by unfold bZ;rw[Eb h h2 h3,To rfl,DU h h5]
  have hp:=(mD hL a1 a2 (vm (f:=f) hL a1 a2 16 (by omega))).1
  unfold eA;rw[hE,To rfl];exact⟨rfl,rfl,hp⟩
theorem Ld (L:List Sx.Obj) (t f:Key) (hL:an L):ai Tryz.prog 71 [.lp 0 0,.key t,.key f] [.store tS eS L] (zO (.it .i64 (bZ L t f)) (eA L t f)) (fun _ _=>False):=
 aK (inl:=(fun f=>f==134||f==133||f==136||f==139)) (ann:=(me [(139,1,SK [0,1,2] (fun g=> [(4,.it .i64 g)]) 0 (Tc L t f) tU yV)])) (ab aX (ab bp (ab lA ak))) (aG c9 aA) (dO fT) (KO L t f hL) (by kernel_rfl)
theorem MJ:ql Tryz.prog 71 Pq:=
 lh (m:=fun x=> [.key x.1,.key x.2]) Du (fun _=>rfl) (fun _ _=>rfl) (fun x=>aK (inl:=(fun f=>f==134||f==133||f==136||f==139)) (ann:=aL) (ab aX (ab bp (ab lA ak))) (aG c9 aA) (dO fT) (Ha x.1 x.2) (by kernel_rfl)) (fun x=>aK (inl:=(fun f=>f==134||f==133||f==136||f==139)) (ann:=aL) (ab aX (ab bp (ab lA ak))) (aG c9 aA) (dO fT) (Jo x.1 x.2) (by kernel_rfl)) fun L x hL _ _=>Ld L x.1 x.2 hL
end Go.Proofs.YtghpaegglbbocaaGreat
