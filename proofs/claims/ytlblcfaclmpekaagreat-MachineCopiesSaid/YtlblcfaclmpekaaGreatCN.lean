import Derived.Test.YtlblcfaclmpekaaGreatKS
import Derived.Test.YtlblcfaclmpekaaGreatCV
set_option linter.unusedSimpArgs false
set_option linter.unusedVariables false
namespace Go.Proofs.YtlblcfaclmpekaaGreat
open Go.Sx
set_option maxRecDepth 100000
theorem J3 (k:Key):
 ((aR []|| !decide (bT k=0))=true->void=ah [] k)/\
   ((aR []|| !decide (bT k=0))=false->
     ((aU k&& !aT [] k)=true->void=ah [] k)/\((aU k&& !aT [] k)=false->k=ah [] k)):=by
 exact Av [] k
theorem H5 (L:List Sx.Obj) (k:Key):
 ((aR L|| !decide (bT k=0))=true->void=ah L k)/\
   ((aR L|| !decide (bT k=0))=false->
     ((aU k&& !aT L k)=true->void=ah L k)/\((aU k&& !aT L k)=false->k=ah L k)):=by
 exact Av L k
theorem fO:dD Tryz.prog 58 Qs:=
 vn iw (fun _ _=>rfl) (fun x _=>bx (inl:=ca) (ann:=aV) (ae nM (ae fc (ae cF (ae br ay)))) (J3 x) (by kernel_rfl)) (fun L x _ _ _=>bx (inl:=ca) (ann:=aV) (ae nM (ae fc (ae cF (ae br ay)))) (H5 L x) (by kernel_rfl)) fun _=>rfl
end Go.Proofs.YtlblcfaclmpekaaGreat
namespace Go.Sx
def UO (nid:Nat):V:= .mp nid
def Us (nid:Nat):List aC:= [.mp .i64 [2,3,1,8] [.fn 240 [.lp (nid+1) 0],.fn 240 [.lp (nid+1+1) 0],.fn 238 [],.fn 238 []],
 .blk 42 (.ci .i64 3),.blk 42 (.ci .i64 1)]
def tN:Nat:=246
def Vs (L:List Obj) (t f:Key) (g:Int):aC:= .blk tN (.ag [.ob (fB (aa L t) (fq L t f g)),.lp 0 0,.key t])
end Go.Sx
namespace Go.Proofs.YtlblcfaclmpekaaGreat
open Go.Sx
set_option maxRecDepth 100000
theorem NY:
 true=true/\
 true=true/\
  ∀(nid:Nat),some (UO nid)=some (UO nid)/\some (Us nid)=some (Us nid):=by
 exact⟨rfl,rfl,fun nid=>⟨rfl,rfl⟩⟩
theorem LF:dD Tryz.prog 234 (yN UO Us):=rF (π:= [0,1,2]) (by decide) (fun _=>rfl) (bR (inl:=(fun f=>f==239)) (ann:=aV) ay aB NY (by kernel_rfl))
theorem F6 (k:Key):
 ((!decide (bT k=0))=true->void=gk k/\2=bT k)/\
   ((!decide (bT k=0))=false->
     ((decide (k.kind=2)||(decide (k.kind=3)||(decide (k.kind=1)||decide (k.kind=8))))=true->
       (decide (k.kind=2)=true->
         true=true/\
          {kind:=k.kind,oid:=k.oid,count:=k.count,call:=k.call,
             rights:=aY BinOp.or IntKind.i64 k.rights 3,value:=k.value}=
           gk k/\
           0=bT k)/\
        (decide (k.kind=2)=false->
         (decide (k.kind=3)=true->
           true=true/\
            {kind:=k.kind,oid:=k.oid,count:=k.count,call:=k.call,
               rights:=aY BinOp.or IntKind.i64 k.rights 1,value:=k.value}=
             gk k/\
             0=bT k)/\
          (decide (k.kind=3)=false->
           (decide (k.kind=1)=true->true=true/\k=gk k/\0=bT k)/\
            (decide (k.kind=1)=false->
             (decide (k.kind=8)=true->true=true/\k=gk k/\0=bT k)/\
              (decide (k.kind=8)=false->False)))))/\
       ((decide (k.kind=2)||(decide (k.kind=3)||(decide (k.kind=1)||decide (k.kind=8))))=false->
         void=gk k/\0=bT k)):=by
 unfold gk bT;cases hok:aW k
 ·simp
 have hr:=gC hok;have o3:k.kind=2->aY BinOp.or IntKind.i64 k.rights 3=jr k.rights 3:=fun e=>HJ hr.1 (by rw[e]at hr;exact hr.2)
 have o1:k.kind=3->aY BinOp.or IntKind.i64 k.rights 1=1:=fun e=>Ao hr.1 (by rw[e]at hr;exact hr.2)
 unfold tt cA;grind
theorem xB:dD Tryz.prog 230 HI:=
 zI iw (fun _=>rfl) fun k hk=>bR (inl:=(fun f=>f==240||f==238)) (ann:=aV) (ae fc (ae LF ay)) aB (F6 k) (by kernel_rfl)
end Go.Proofs.YtlblcfaclmpekaaGreat
namespace Go.Proofs.YtlblcfaclmpekaaGreat
open Go.Sx
set_option maxRecDepth 100000
theorem IX (o:Sx.Obj) (k:Key) (i:Int) (hq:mY k i):
 (0<=i/\i< ↑16)/\
  ((!decide (aY BinOp.and IntKind.i64 k.rights 2=0))=true->
    gk (ah [] (o.slots.at i.toNat))=iV [] o k i)/\
    ((!decide (aY BinOp.and IntKind.i64 k.rights 2=0))=false->
      ah [] (o.slots.at i.toNat)=iV [] o k i):=by
 exact DW hq
theorem L7 (o:Sx.Obj) (L:List Sx.Obj) (k:Key) (i:Int) (hq:mY k i):
 (0<=i/\i< ↑16)/\
  ((!decide (aY BinOp.and IntKind.i64 k.rights 2=0))=true->
    gk (ah L (o.slots.at i.toNat))=iV L o k i)/\
    ((!decide (aY BinOp.and IntKind.i64 k.rights 2=0))=false->ah L (o.slots.at i.toNat)=iV L o k i):=by
 exact DW hq
theorem mF:dD Tryz.prog 196 Qc:=
 jH (aQ (C8 SP) (aQ fP dU)) (fun _=>rfl) fun a hq hok=>by
  obtain⟨⟨o,S,k,_⟩,i,_⟩:=a;cases S with
  |none=>exact bx (inl:=ca) (ann:=aV) (ae fO (ae xB ay)) (IX o k i hq) (by kernel_rfl)
  |some L=>exact bx (inl:=ca) (ann:=aV) (ae fO (ae xB ay)) (L7 o L k i hq) (by kernel_rfl)
theorem Hg (k:Key) (i:Int):
 true=true/\
  true=true/\
   ((!decide (0<aj []))=true->void=aK [] k i/\1=cH [] k i)/\
     ((!decide (0<aj []))=false->
       true=true/\
        ((!(aT [] k&&decide (k.kind=2)))=true->void=aK [] k i/\190=cH [] k i)/\
          ((!(aT [] k&&decide (k.kind=2)))=false->
            true=true/\
             true=true/\
              ((!(decide (0<=i)&&decide (i<16)))=true->void=aK [] k i/\4=cH [] k i)/\
                ((!(decide (0<=i)&&decide (i<16)))=false->
                  mY k i/\iV [] (aa [] k) k i=aK [] k i/\0=cH [] k i))):=by
 have hE:∀e,aS [] k 2 false=e->e≠0->void=aK [] k i/\e=cH [] k i:=fun e h h0=>by
  unfold aK cH;rw[h,VQ h0,VQ h0];exact⟨rfl,rfl⟩
 refine⟨rfl,rfl,fun h=>hE _ ?_ (by omega),fun h=>⟨rfl,fun h2=>hE _ ?_ (by omega),fun h2=>⟨rfl,rfl,fun h3=>?_,fun h3=>?_⟩⟩⟩
 ·unfold aS;unfold aj at h;rw[VR (by simp at h;omega)]
 ·unfold aS;unfold aj at h;rw[VQ (by simp at h;omega),VR (by simpa using h2)]
 ·have hA:aS [] k 2 false=0:=by
   unfold aS;unfold aj at h;rw[VQ (by simp at h;omega),VQ (by simpa using h2),VQ (by simp)]
  rw[Bool.not_eq_true']at h3;unfold aK cH me;rw[hA,VR rfl,h3];exact⟨rfl,rfl⟩
 ·have hA:aS [] k 2 false=0:=by
   unfold aS;unfold aj at h;rw[VQ (by simp at h;omega),VQ (by simpa using h2),VQ (by simp)]
  obtain⟨a1,_,_⟩:=kE hA;obtain⟨b1,b2,b3,b4,_⟩:=eF a1;rw[Bool.not_eq_false']at h3;have h3':0<=i/\i<16:=by simpa using h3
  unfold aK cH me;rw[hA,VR rfl,h3,VR rfl,VR rfl,b4];exact⟨⟨h3'.1,h3'.2,b1⟩,rfl,rfl⟩
theorem Nn (L:List Sx.Obj) (k:Key) (i:Int):
 true=true/\
  true=true/\
   ((!decide (0<aj L))=true->void=aK L k i/\1=cH L k i)/\
     ((!decide (0<aj L))=false->
       true=true/\
        ((!(aT L k&&decide (k.kind=2)))=true->void=aK L k i/\190=cH L k i)/\
          ((!(aT L k&&decide (k.kind=2)))=false->
            true=true/\
             true=true/\
              ((!(decide (0<=i)&&decide (i<16)))=true->void=aK L k i/\4=cH L k i)/\
                ((!(decide (0<=i)&&decide (i<16)))=false->
                  mY k i/\iV L (aa L k) k i=aK L k i/\0=cH L k i))):=by
 have hE:∀e,aS L k 2 false=e->e≠0->void=aK L k i/\e=cH L k i:=fun e h h0=>by
  unfold aK cH;rw[h,VQ h0,VQ h0];exact⟨rfl,rfl⟩
 refine⟨rfl,rfl,fun h=>hE _ ?_ (by omega),fun h=>⟨rfl,fun h2=>hE _ ?_ (by omega),fun h2=>⟨rfl,rfl,fun h3=>?_,fun h3=>?_⟩⟩⟩
 ·unfold aS;unfold aj at h;rw[VR (by simp at h;omega)]
 ·unfold aS;unfold aj at h;rw[VQ (by simp at h;omega),VR (by simpa using h2)]
 ·have hA:aS L k 2 false=0:=by
   unfold aS;unfold aj at h;rw[VQ (by simp at h;omega),VQ (by simpa using h2),VQ (by simp)]
  rw[Bool.not_eq_true']at h3;unfold aK cH me;rw[hA,VR rfl,h3];exact⟨rfl,rfl⟩
 ·have hA:aS L k 2 false=0:=by
   unfold aS;unfold aj at h;rw[VQ (by simp at h;omega),VQ (by simpa using h2),VQ (by simp)]
  obtain⟨a1,_,_⟩:=kE hA;obtain⟨b1,b2,b3,b4,_⟩:=eF a1;rw[Bool.not_eq_false']at h3;have h3':0<=i/\i<16:=by simpa using h3
  unfold aK cH me;rw[hA,VR rfl,h3,VR rfl,VR rfl,b4];exact⟨⟨h3'.1,h3'.2,b1⟩,rfl,rfl⟩
theorem pZ:dD Tryz.prog 147 QU:=
 jH (aQ qL (aQ mC (aQ fP dU))) (fun _=>rfl) fun a hq hok=>by
  obtain⟨S,k,i,_⟩:=a;cases S with
  |none=>exact aN (inl:=(fun f=>f==195||f==194)) (ann:=aV) (ae bd (ae br (ae mF ay))) aB (cY gd) (Hg k i) (by kernel_rfl)
  |some L=>exact aN (inl:=(fun f=>f==195||f==194)) (ann:=aV) (ae bd (ae br (ae mF ay))) aB (cY gd) (Nn L k i) (by kernel_rfl)
end Go.Proofs.YtlblcfaclmpekaaGreat
namespace Go.Proofs.YtlblcfaclmpekaaGreat
open Go.Sx
set_option maxRecDepth 100000
theorem IZ (k:Key) (i:Int) (v:Key):
 true=true/\
  true=true/\
   ((!decide (0<aj []))=true->void=eu [] k i v/\1=bE [] k i v)/\
     ((!decide (0<aj []))=false->
       true=true/\
        ((!(aT [] k&&decide (k.kind=2)))=true->void=eu [] k i v/\190=bE [] k i v)/\
          ((!(aT [] k&&decide (k.kind=2)))=false->
            true=true/\
             ((!decide (aY BinOp.and IntKind.i64 k.rights 3=0))=true->
               void=eu [] k i v/\191=bE [] k i v)/\
               ((!decide (aY BinOp.and IntKind.i64 k.rights 3=0))=false->
                 true=true/\
                  ((!(decide (0<=i)&&decide (i<16)))=true->
                      void=eu [] k i v/\4=bE [] k i v)/\
                    ((!(decide (0<=i)&&decide (i<16)))=false->
                      true=true/\
                       ((!(decide (bT v=0)&&(!aU v||decide (bJ v<aj []))))=true->
                           void=eu [] k i v/\2=bE [] k i v)/\
                         ((!(decide (bT v=0)&&(!aU v||decide (bJ v<aj []))))=false->
                           mY k i/\
                            true=true/\
                             true=true/\
                              (0<=i/\i< ↑16)/\
                               true=true/\
                                iV [] (aa [] k) k i=eu [] k i v/\0=bE [] k i v))))):=by
 refine⟨rfl,rfl,fun _=>⟨rfl,rfl⟩,fun h=>absurd h (by decide)⟩
theorem I3 (k:Key) (i:Int) (v:Key):
 true=true/\
  true=true/\
   ((!decide (0<aj []))=true->void=eu [] k i v/\1=bE [] k i v)/\
     ((!decide (0<aj []))=false->
       true=true/\
        ((!(aT [] k&&decide (k.kind=2)))=true->void=eu [] k i v/\190=bE [] k i v)/\
          ((!(aT [] k&&decide (k.kind=2)))=false->
            true=true/\
             ((!decide (aY BinOp.and IntKind.i64 k.rights 3=0))=true->
               void=eu [] k i v/\191=bE [] k i v)/\
               ((!decide (aY BinOp.and IntKind.i64 k.rights 3=0))=false->
                 true=true/\
                  ((!(decide (0<=i)&&decide (i<16)))=true->
                      void=eu [] k i v/\4=bE [] k i v)/\
                    ((!(decide (0<=i)&&decide (i<16)))=false->
                      true=true/\
                       ((!(decide (bT v=0)&&(!aU v||decide (bJ v<aj []))))=true->
                           void=eu [] k i v/\2=bE [] k i v)/\
                         ((!(decide (bT v=0)&&(!aU v||decide (bJ v<aj []))))=false->
                           mY k i/\true=true/\true=true/\(0<=i/\i< ↑16)/\true=true/\False))))):=by
 refine⟨rfl,rfl,fun _=>⟨rfl,rfl⟩,fun h=>absurd h (by decide)⟩
theorem N0 (L:List Sx.Obj) (k:Key) (i:Int) (v:Key) (hL:aw L):
 true=true/\
  true=true/\
   ((!decide (0<aj L))=true->(void=eu L k i v/\1=bE L k i v)/\L=dN L k i v)/\
     ((!decide (0<aj L))=false->
       true=true/\
        ((!(aT L k&&decide (k.kind=2)))=true->
            (void=eu L k i v/\190=bE L k i v)/\L=dN L k i v)/\
          ((!(aT L k&&decide (k.kind=2)))=false->
            true=true/\
             ((!decide (aY BinOp.and IntKind.i64 k.rights 3=0))=true->
               (void=eu L k i v/\191=bE L k i v)/\L=dN L k i v)/\
               ((!decide (aY BinOp.and IntKind.i64 k.rights 3=0))=false->
                 true=true/\
                  ((!(decide (0<=i)&&decide (i<16)))=true->
                      (void=eu L k i v/\4=bE L k i v)/\L=dN L k i v)/\
                    ((!(decide (0<=i)&&decide (i<16)))=false->
                      true=true/\
                       ((!(decide (bT v=0)&&(!aU v||decide (bJ v<aj L))))=true->
                           (void=eu L k i v/\2=bE L k i v)/\L=dN L k i v)/\
                         ((!(decide (bT v=0)&&(!aU v||decide (bJ v<aj L))))=false->
                           mY k i/\
                            true=true/\
                             true=true/\
                              (0<=i/\i< ↑16)/\
                               true=true/\
                                (iV L (aa L k) k i=eu L k i v/\0=bE L k i v)/\
                                 bP L k.oid
                                   {kind:=(aa L k).kind,count:=(aa L k).count,
                                    calls:=(aa L k).calls,
                                    slots:=(aa L k).slots.put i.toNat (ah L v),
                                    bytes:=(aa L k).bytes}=
                                  dN L k i v))))):=by
 have fin:∀e,bE L k i v=e->e≠0->(void=eu L k i v/\e=bE L k i v)/\L=dN L k i v:=fun e h h0=>by
  unfold eu dN;rw[h,VQ h0,VQ h0];exact⟨⟨rfl,rfl⟩,rfl⟩
 have bad:∀e,aS L k 2 true=e->e≠0->bE L k i v=e:=fun e h h0=>by unfold bE;rw[h,VQ h0]
 refine⟨rfl,rfl,fun h=>fin _ (bad _ (HY h) (by omega)) (by omega),fun h=>⟨rfl,fun h2=>fin _ (bad _ (FN h h2) (by omega)) (by omega),fun h2=>⟨rfl,fun h3=>fin _ (bad _ (PZ h h2 h3) (by omega)) (by omega),fun h3=>⟨rfl,fun h4=>fin 4 ?_ (by omega),fun h4=>⟨rfl,fun h5=>fin 2 ?_ (by omega),fun h5=>?_⟩⟩⟩⟩⟩
 ·rw[Bool.not_eq_true']at h4;unfold bE me;rw[Gk h h2 h3,VR rfl,h4];rfl
 ·rw[Bool.not_eq_false']at h4;have hm:bQ L v=false:=by rw[<-sG];rw[Bool.not_eq_true']at h5;exact h5
  unfold bE me;rw[Gk h h2 h3,VR rfl,h4,hm];rfl
 ·rw[Bool.not_eq_false']at h4;have h4':0<=i/\i<16:=by simpa using h4
  have hm:bQ L v=true:=by rw[<-sG];rw[Bool.not_eq_false']at h5;exact h5
  have hE:bE L k i v=0:=by
   unfold bE me;rw[Gk h h2 h3,VR rfl,h4,hm];rfl
  obtain⟨a1,a2⟩:=lV h2;obtain⟨b1,b2,b3,b4,_⟩:=eF a1;have hp:=(nu hL a1 a2 (B1 (v:=v) hL a1 a2 h4'.1 h4'.2)).1;unfold eu dN;rw[hE,VR rfl,VR rfl,<-hp,b4];exact⟨⟨h4'.1,h4'.2,b1⟩,rfl,rfl,⟨h4'.1,by omega⟩,rfl,⟨rfl,rfl⟩,rfl⟩
theorem NU (L:List Sx.Obj) (k:Key) (i:Int) (v:Key) (hL:aw L):ak Tryz.prog 150 [.lp 0 0,.key k,.it .i64 i,.key v] [.store tS eS L] (Ae (.tp [.key (eu L k i v),.it .i64 (bE L k i v)]) (dN L k i v)) (fun _ _=>False):=
 aN (inl:=(fun f=>f==195||f==194||f==197||f==198)) (ann:=aV) (ae bd (ae br (ae mF (ae cF (ae fc (ae fO ay)))))) (aF cx aB) (cY gd) (N0 L k i v hL) (by kernel_rfl)
theorem E3:oM Tryz.prog 150 RB:=
 lO (m:=fun x=> [.key x.1,.it .i64 x.2.1,.key x.2.2]) Ik (fun _=>rfl) (fun _ _=>rfl) (fun x=>aN (inl:=(fun f=>f==195||f==194||f==197||f==198)) (ann:=aV) (ae bd (ae br (ae mF (ae cF (ae fc (ae fO ay)))))) (aF cx aB) (cY gd) (IZ x.1 x.2.1 x.2.2) (by kernel_rfl)) (fun x=>aN (inl:=(fun f=>f==195||f==194||f==197||f==198)) (ann:=aV) (ae bd (ae br (ae mF (ae cF (ae fc (ae fO ay)))))) (aF cx aB) (cY gd) (I3 x.1 x.2.1 x.2.2) (by kernel_rfl)) fun L x hL _ _=>NU L x.1 x.2.1 x.2.2 hL
theorem Jo (k:Key):
 true=true/\
  true=true/\
   ((!decide (0<aj []))=true->1=aS [] k 2 true)/\
     ((!decide (0<aj []))=false->
       true=true/\
        ((!(aT [] k&&decide (k.kind=2)))=true->190=aS [] k 2 true)/\
          ((!(aT [] k&&decide (k.kind=2)))=false->
            true=true/\
             ((!decide (aY BinOp.and IntKind.i64 k.rights 3=0))=true->191=aS [] k 2 true)/\
               ((!decide (aY BinOp.and IntKind.i64 k.rights 3=0))=false->
                 true=true/\true=true/\true=true/\0=aS [] k 2 true))):=by
 refine⟨rfl,rfl,fun _=>rfl,fun h=>absurd h (by decide)⟩
theorem IH (k:Key):
 true=true/\
  true=true/\
   ((!decide (0<aj []))=true->1=aS [] k 2 true)/\
     ((!decide (0<aj []))=false->
       true=true/\
        ((!(aT [] k&&decide (k.kind=2)))=true->190=aS [] k 2 true)/\
          ((!(aT [] k&&decide (k.kind=2)))=false->
            true=true/\
             ((!decide (aY BinOp.and IntKind.i64 k.rights 3=0))=true->191=aS [] k 2 true)/\
               ((!decide (aY BinOp.and IntKind.i64 k.rights 3=0))=false->
                 true=true/\true=true/\true=true/\False))):=by
 refine⟨rfl,rfl,fun _=>rfl,fun h=>absurd h (by decide)⟩
theorem LD (L:List Sx.Obj) (k:Key) (hL:aw L):
 true=true/\
  true=true/\
   ((!decide (0<aj L))=true->1=aS L k 2 true/\L=ga L k)/\
     ((!decide (0<aj L))=false->
       true=true/\
        ((!(aT L k&&decide (k.kind=2)))=true->190=aS L k 2 true/\L=ga L k)/\
          ((!(aT L k&&decide (k.kind=2)))=false->
            true=true/\
             ((!decide (aY BinOp.and IntKind.i64 k.rights 3=0))=true->
               191=aS L k 2 true/\L=ga L k)/\
               ((!decide (aY BinOp.and IntKind.i64 k.rights 3=0))=false->
                 true=true/\
                  true=true/\
                   true=true/\
                    0=aS L k 2 true/\
                     bP L k.oid
                       {kind:=(aa L k).kind,count:=(aa L k).count,calls:=(aa L k).calls,
                        slots:=fY,bytes:=(aa L k).bytes}=
                      ga L k))):=by
 have fin:∀e,aS L k 2 true=e->e≠0->e=aS L k 2 true/\L=ga L k:=fun e h h0=>by
  unfold ga;rw[h,VQ h0];exact⟨rfl,rfl⟩
 refine⟨rfl,rfl,fun h=>fin _ (HY h) (by omega),fun h=>⟨rfl,fun h2=>fin _ (FN h h2) (by omega),fun h2=>⟨rfl,fun h3=>fin _ (PZ h h2 h3) (by omega),fun h3=>⟨rfl,rfl,rfl,?_⟩⟩⟩⟩
 obtain⟨a1,a2⟩:=lV h2;have hp:=(nu hL a1 a2 (DU (by omega))).1
 unfold ga;rw[Gk h h2 h3,VR rfl,<-hp];exact⟨rfl,rfl⟩
theorem L5 (L:List Sx.Obj) (k:Key) (hL:aw L):ak Tryz.prog 153 [.lp 0 0,.key k] [.store tS eS L] (Ae (.it .i64 (aS L k 2 true)) (ga L k)) (fun _ _=>False):=
 aN (inl:=(fun f=>f==195||f==194||f==197||f==199)) (ann:=aV) (ae bd (ae br ay)) (aF cx aB) (cY gd) (LD L k hL) (by kernel_rfl)
theorem LP:oM Tryz.prog 153 Pw:=
 lO (m:=fun x=> [.key x]) HR (fun _=>rfl) (fun _ _=>rfl) (fun x=>aN (inl:=(fun f=>f==195||f==194||f==197||f==199)) (ann:=aV) (ae bd (ae br ay)) (aF cx aB) (cY gd) (Jo x) (by kernel_rfl)) (fun x=>aN (inl:=(fun f=>f==195||f==194||f==197||f==199)) (ann:=aV) (ae bd (ae br ay)) (aF cx aB) (cY gd) (IH x) (by kernel_rfl)) fun L x hL _ _=>L5 L x hL
theorem KQ (t f:Key):
 true=true/\
  true=true/\
   ((!decide (0<aj []))=true->1=cc [] t f)/\
     ((!decide (0<aj []))=false->
       true=true/\
        ((!(aT [] t&&decide (t.kind=2)))=true->190=cc [] t f)/\
          ((!(aT [] t&&decide (t.kind=2)))=false->
            true=true/\
             ((!decide (aY BinOp.and IntKind.i64 t.rights 3=0))=true->191=cc [] t f)/\
               ((!decide (aY BinOp.and IntKind.i64 t.rights 3=0))=false->
                 true=true/\
                  true=true/\
                   ((!decide (0<aj []))=true->1=cc [] t f)/\
                     ((!decide (0<aj []))=false->
                       true=true/\
                        ((!(aT [] f&&decide (f.kind=2)))=true->190=cc [] t f)/\
                          ((!(aT [] f&&decide (f.kind=2)))=false->
                            true=true/\true=true/\true=true/\False))))):=by
 refine⟨rfl,rfl,fun _=>rfl,fun h=>absurd h (by decide)⟩
theorem Ji (t f:Key):
 true=true/\
  true=true/\
   ((!decide (0<aj []))=true->1=cc [] t f)/\
     ((!decide (0<aj []))=false->
       true=true/\
        ((!(aT [] t&&decide (t.kind=2)))=true->190=cc [] t f)/\
          ((!(aT [] t&&decide (t.kind=2)))=false->
            true=true/\
             ((!decide (aY BinOp.and IntKind.i64 t.rights 3=0))=true->191=cc [] t f)/\
               ((!decide (aY BinOp.and IntKind.i64 t.rights 3=0))=false->
                 true=true/\
                  true=true/\
                   ((!decide (0<aj []))=true->1=cc [] t f)/\
                     ((!decide (0<aj []))=false->
                       true=true/\
                        ((!(aT [] f&&decide (f.kind=2)))=true->190=cc [] t f)/\
                          ((!(aT [] f&&decide (f.kind=2)))=false->
                            true=true/\true=true/\true=true/\False))))):=by
 refine⟨rfl,rfl,fun _=>rfl,fun h=>absurd h (by decide)⟩
theorem MY (L:List Sx.Obj) (t f:Key) (hL:aw L):
 true=true/\
  true=true/\
   ((!decide (0<aj L))=true->1=cc L t f/\L=fz L t f)/\
     ((!decide (0<aj L))=false->
       true=true/\
        ((!(aT L t&&decide (t.kind=2)))=true->190=cc L t f/\L=fz L t f)/\
          ((!(aT L t&&decide (t.kind=2)))=false->
            true=true/\
             ((!decide (aY BinOp.and IntKind.i64 t.rights 3=0))=true->
               191=cc L t f/\L=fz L t f)/\
               ((!decide (aY BinOp.and IntKind.i64 t.rights 3=0))=false->
                 true=true/\
                  true=true/\
                   ((!decide (0<aj L))=true->1=cc L t f/\L=fz L t f)/\
                     ((!decide (0<aj L))=false->
                       true=true/\
                        ((!(aT L f&&decide (f.kind=2)))=true->
                            190=cc L t f/\L=fz L t f)/\
                          ((!(aT L f&&decide (f.kind=2)))=false->
                            true=true/\
                             true=true/\
                              true=true/\
                               (∃g,
                                 uV g/\
                                  0=g/\
                                   L=L/\
                                    t=t/\
                                     f=f/\
                                      t=t/\
                                       aa L t=aa L t/\
                                        t=t/\
                                         aa L t=aa L t/\
                                          aa L t=aa L t/\
                                           t=t/\
                                            f=f/\
                                             aa L f=aa L f/\
                                              f=f/\
                                               aa L f=aa L f/\
                                                aa L f=aa L f/\
                                                 f=f/\
                                                  aa L t=
                                                    fB (aa L t)
                                                     (fq L t f g)/\
                                                   t=t)/\
                                ∀(g:Int),
                                 uV g->
                                  (decide (g<16)=true->
                                    mY f g/\
                                     (0<=g/\g< ↑16)/\
                                      aP IntKind.i64 (g+1)/\
                                       ∃g',
                                        uV g'/\
                                         zb g'<zb g/\
                                          g+1=g'/\
                                           L=L/\
                                            t=t/\
                                             f=f/\
                                              t=t/\
                                               aa L t=aa L t/\
                                                t=t/\
                                                 aa L t=aa L t/\
                                                  aa L t=aa L t/\
                                                   t=t/\
                                                    f=f/\
                                                     aa L f=aa L f/\
                                                      f=f/\
                                                       aa L f=aa L f/\
                                                        aa L f=aa L f/\
                                                         f=f/\
                                                          {
                                                             kind:=
                                                              (fB
                                                                (aa L t)
                                                                (fq L t
                                                                 f
                                                                 g)).kind,
                                                             count:=
                                                              (fB
                                                                (aa L t)
                                                                (fq L t
                                                                 f
                                                                 g)).count,
                                                             calls:=
                                                              (fB
                                                                (aa L t)
                                                                (fq L t
                                                                 f
                                                                 g)).calls,
                                                             slots:=
                                                              (fB
                                                                 (aa
                                                                  L t)
                                                                 (fq
                                                                  L t f
                                                                  g)).slots.put
                                                               g.toNat
                                                               (iV L
                                                                (aa L f)
                                                                f g),
                                                             bytes:=
                                                              (fB
                                                                (aa L t)
                                                                (fq L t
                                                                 f
                                                                 g)).bytes}=
                                                            fB (aa L t)
                                                             (fq L t f
                                                              g')/\
                                                           t=t)/\
                                   (decide (g<16)=false->
                                    true=true/\
                                     0=cc L t f/\
                                      bP L t.oid (fB (aa L t) (fq L t f g))=
                                       fz L t f)))))):=by
 have fin:∀e,cc L t f=e->e≠0->e=cc L t f/\L=fz L t f:=fun e h h0=>by
  unfold fz;rw[h,VQ h0];exact⟨rfl,rfl⟩
 have bad:∀e,aS L t 2 true=e->e≠0->cc L t f=e:=fun e h h0=>by unfold cc;rw[h,VQ h0]
 refine⟨rfl,rfl,fun h=>fin _ (bad _ (HY h) (by omega)) (by omega),fun h=>⟨rfl,fun h2=>fin _ (bad _ (FN h h2) (by omega)) (by omega),fun h2=>⟨rfl,fun h3=>fin _ (bad _ (PZ h h2 h3) (by omega)) (by omega),fun h3=>⟨rfl,rfl,fun h4=>?_,fun h4=>⟨rfl,fun h5=>fin 190 ?_ (by omega),fun h5=>⟨rfl,rfl,rfl,?_,fun g hg=>⟨fun hlt=>?_,fun hge=>?_⟩⟩⟩⟩⟩⟩⟩
 ·rw[h]at h4;simp at h4
 ·unfold cc;rw[Gk h h2 h3,VR rfl,FN h h5]
 ·obtain⟨a1,a2⟩:=lV h2;refine⟨0,⟨by omega,by omega⟩,?_⟩
  have:=H3 (f:=f) (eF a1).2.2.2.1;repeat' apply And.intro
  all_goals first|rfl|exact this
 ·obtain⟨g0,g1⟩:=hg;have hlt:=VO hlt;obtain⟨a1,a2⟩:=lV h5;have hs:=Jt (t:=t) g0 (eF a1).2.2.2.1 (aa L t) fY;refine⟨⟨g0,by omega,(eF a1).1⟩,⟨g0,by omega⟩,by simp only[aP,cj];omega,g+1,⟨by omega,by omega⟩,by unfold zb;omega,?_⟩
  repeat' apply And.intro
  all_goals first|rfl|exact hs
 ·obtain⟨g0,g1⟩:=hg;have hge:=VN hge;have:g=16:=by omega
  subst this;obtain⟨a1,a2⟩:=lV h2;have hE:cc L t f=0:=by unfold cc;rw[Gk h h2 h3,VR rfl,E0 h h5]
  have hp:=(nu hL a1 a2 (wc (f:=f) hL a1 a2 16 (by omega))).1
  unfold fz;rw[hE,VR rfl];exact⟨rfl,rfl,hp⟩
theorem MR (L:List Sx.Obj) (t f:Key) (hL:aw L):ak Tryz.prog 155 [.lp 0 0,.key t,.key f] [.store tS eS L] (Ae (.it .i64 (cc L t f)) (fz L t f)) (fun _ _=>False):=
 aN (inl:=(fun f=>f==195||f==194||f==197||f==200)) (ann:=(lr [(200,1,Ub [0,1,2] (fun g=> [(4,.it .i64 g)]) 0 (Vs L t f) uV zb)])) (ae bd (ae br (ae mF ay))) (aF cx aB) (cY gd) (MY L t f hL) (by kernel_rfl)
theorem M9:oM Tryz.prog 155 PG:=
 lO (m:=fun x=> [.key x.1,.key x.2]) D4 (fun _=>rfl) (fun _ _=>rfl) (fun x=>aN (inl:=(fun f=>f==195||f==194||f==197||f==200)) (ann:=aV) (ae bd (ae br (ae mF ay))) (aF cx aB) (cY gd) (KQ x.1 x.2) (by kernel_rfl)) (fun x=>aN (inl:=(fun f=>f==195||f==194||f==197||f==200)) (ann:=aV) (ae bd (ae br (ae mF ay))) (aF cx aB) (cY gd) (Ji x.1 x.2) (by kernel_rfl)) fun L x hL _ _=>MR L x.1 x.2 hL
end Go.Proofs.YtlblcfaclmpekaaGreat
