import Derived.Test.YtlblcfaclmpekaaGreatKS
import Derived.Test.YtlblcfaclmpekaaGreatCV
set_option linter.unusedSimpArgs false
set_option linter.unusedVariables false
namespace Go.Proofs.YtlblcfaclmpekaaGreat
open Go.Sx
set_option maxRecDepth 100000
theorem Kp (k:Key):
 ((aP []|| !decide (bg k=0))=true->void=ae [] k)/\
   ((aP []|| !decide (bg k=0))=false->
     ((aR k&& !aI [] k)=true->void=ae [] k)/\((aR k&& !aI [] k)=false->k=ae [] k)):=by
 exact B6 [] k
theorem Ip (L:List Sx.Obj) (k:Key):
 ((aP L|| !decide (bg k=0))=true->void=ae L k)/\
   ((aP L|| !decide (bg k=0))=false->
     ((aR k&& !aI L k)=true->void=ae L k)/\((aR k&& !aI L k)=false->k=ae L k)):=by
 exact B6 L k
theorem fQ:cV Tryz.prog 58 Rd:=
 vI gW (fun _ _=>rfl) (fun x _=>bd (inl:=bS) (ann:=aO) (ab nS (ab fj (ab cF (ab bk an)))) (Kp x) (by kernel_rfl)) (fun L x _ _ _=>bd (inl:=bS) (ann:=aO) (ab nS (ab fj (ab cF (ab bk an)))) (Ip L x) (by kernel_rfl)) fun _=>rfl
end Go.Proofs.YtlblcfaclmpekaaGreat
namespace Go.Sx
def WB (nid:Nat):V:= .mp nid
def Wg (nid:Nat):List aA:= [.mp .i64 [2,3,1,8] [.fn 240 [.lp (nid+1) 0],.fn 240 [.lp (nid+1+1) 0],.fn 238 [],.fn 238 []],
 .blk 42 (.ci .i64 3),.blk 42 (.ci .i64 1)]
def tN:Nat:=246
def Xh (L:List Obj) (t f:Key) (g:Int):aA:= .blk tN (.ag [.ob (fH (aa L t) (fB L t f g)),.lp 0 0,.key t])
end Go.Sx
namespace Go.Proofs.YtlblcfaclmpekaaGreat
open Go.Sx
set_option maxRecDepth 100000
theorem M6:
 true=true/\
 true=true/\
  ∀(nid:Nat),some (WB nid)=some (WB nid)/\some (Wg nid)=some (Wg nid):=by
 exact⟨rfl,rfl,fun nid=>⟨rfl,rfl⟩⟩
theorem Nx:cV Tryz.prog 234 (zq WB Wg):=sm (π:= [0,1,2]) (by decide) (fun _=>rfl) (bK (inl:=(fun f=>f==239)) (ann:=aO) an az M6 (by kernel_rfl))
theorem Ga (k:Key):
 ((!decide (bg k=0))=true->void=gh k/\2=bg k)/\
   ((!decide (bg k=0))=false->
     ((decide (k.kind=2)||(decide (k.kind=3)||(decide (k.kind=1)||decide (k.kind=8))))=true->
       (decide (k.kind=2)=true->
         true=true/\
          {kind:=k.kind,oid:=k.oid,count:=k.count,call:=k.call,
             rights:=aT BinOp.or IntKind.i64 k.rights 3,value:=k.value}=
           gh k/\
           0=bg k)/\
        (decide (k.kind=2)=false->
         (decide (k.kind=3)=true->
           true=true/\
            {kind:=k.kind,oid:=k.oid,count:=k.count,call:=k.call,
               rights:=aT BinOp.or IntKind.i64 k.rights 1,value:=k.value}=
             gh k/\
             0=bg k)/\
          (decide (k.kind=3)=false->
           (decide (k.kind=1)=true->true=true/\k=gh k/\0=bg k)/\
            (decide (k.kind=1)=false->
             (decide (k.kind=8)=true->true=true/\k=gh k/\0=bg k)/\
              (decide (k.kind=8)=false->False)))))/\
       ((decide (k.kind=2)||(decide (k.kind=3)||(decide (k.kind=1)||decide (k.kind=8))))=false->
         void=gh k/\0=bg k)):=by
 unfold gh bg;cases hok:aN k
 ·simp
 have hr:=gL hok;have o3:k.kind=2->aT BinOp.or IntKind.i64 k.rights 3=jx k.rights 3:=fun e=>Ly hr.1 (by rw[e]at hr;exact hr.2)
 have o1:k.kind=3->aT BinOp.or IntKind.i64 k.rights 1=1:=fun e=>A5 hr.1 (by rw[e]at hr;exact hr.2)
 unfold tJ cC;grind
theorem ye:cV Tryz.prog 230 JW:=
 rC gW (fun _=>rfl) fun k hk=>bK (inl:=(fun f=>f==240||f==238)) (ann:=aO) (ab fj (ab Nx an)) az (Ga k) (by kernel_rfl)
end Go.Proofs.YtlblcfaclmpekaaGreat
namespace Go.Proofs.YtlblcfaclmpekaaGreat
open Go.Sx
set_option maxRecDepth 100000
theorem LX (o:Sx.Obj) (k:Key) (i:Int) (hq:mX k i):
 (0<=i/\i< ↑16)/\
  ((!decide (aT BinOp.and IntKind.i64 k.rights 2=0))=true->
    gh (ae [] (o.slots.at i.toNat))=jb [] o k i)/\
    ((!decide (aT BinOp.and IntKind.i64 k.rights 2=0))=false->
      ae [] (o.slots.at i.toNat)=jb [] o k i):=by
 exact Ft hq
theorem Oi (o:Sx.Obj) (L:List Sx.Obj) (k:Key) (i:Int) (hq:mX k i):
 (0<=i/\i< ↑16)/\
  ((!decide (aT BinOp.and IntKind.i64 k.rights 2=0))=true->
    gh (ae L (o.slots.at i.toNat))=jb L o k i)/\
    ((!decide (aT BinOp.and IntKind.i64 k.rights 2=0))=false->ae L (o.slots.at i.toNat)=jb L o k i):=by
 exact Ft hq
theorem mI:cV Tryz.prog 196 Tb:=
 jT (aM (Dg T4) (aM fP dM)) (fun _=>rfl) fun a hq hok=>by
  obtain⟨⟨o,S,k,_⟩,i,_⟩:=a;cases S with
  |none=>exact bd (inl:=bS) (ann:=aO) (ab fQ (ab ye an)) (LX o k i hq) (by kernel_rfl)
  |some L=>exact bd (inl:=bS) (ann:=aO) (ab fQ (ab ye an)) (Oi o L k i hq) (by kernel_rfl)
theorem Io (k:Key) (i:Int):
 true=true/\
  true=true/\
   ((!decide (0<ah []))=true->void=aH [] k i/\1=cG [] k i)/\
     ((!decide (0<ah []))=false->
       true=true/\
        ((!(aI [] k&&decide (k.kind=2)))=true->void=aH [] k i/\190=cG [] k i)/\
          ((!(aI [] k&&decide (k.kind=2)))=false->
            true=true/\
             true=true/\
              ((!(decide (0<=i)&&decide (i<16)))=true->void=aH [] k i/\4=cG [] k i)/\
                ((!(decide (0<=i)&&decide (i<16)))=false->
                  mX k i/\jb [] (aa [] k) k i=aH [] k i/\0=cG [] k i))):=by
 have hE:∀e,aQ [] k 2 false=e->e≠0->void=aH [] k i/\e=cG [] k i:=fun e h h0=>by
  unfold aH cG;rw[h,Xu h0,Xu h0];exact⟨rfl,rfl⟩
 refine⟨rfl,rfl,fun h=>hE _ ?_ (by omega),fun h=>⟨rfl,fun h2=>hE _ ?_ (by omega),fun h2=>⟨rfl,rfl,fun h3=>?_,fun h3=>?_⟩⟩⟩
 ·unfold aQ;unfold ah at h;rw[Xv (by simp at h;omega)]
 ·unfold aQ;unfold ah at h;rw[Xu (by simp at h;omega),Xv (by simpa using h2)]
 ·have hA:aQ [] k 2 false=0:=by
   unfold aQ;unfold ah at h;rw[Xu (by simp at h;omega),Xu (by simpa using h2),Xu (by simp)]
  rw[Bool.not_eq_true']at h3;unfold aH cG my;rw[hA,Xv rfl,h3];exact⟨rfl,rfl⟩
 ·have hA:aQ [] k 2 false=0:=by
   unfold aQ;unfold ah at h;rw[Xu (by simp at h;omega),Xu (by simpa using h2),Xu (by simp)]
  obtain⟨a1,_,_⟩:=kR hA;obtain⟨b1,b2,b3,b4,_⟩:=ej a1;rw[Bool.not_eq_false']at h3;have h3':0<=i/\i<16:=by simpa using h3
  unfold aH cG my;rw[hA,Xv rfl,h3,Xv rfl,Xv rfl,b4];exact⟨⟨h3'.1,h3'.2,b1⟩,rfl,rfl⟩
theorem OA (L:List Sx.Obj) (k:Key) (i:Int):
 true=true/\
  true=true/\
   ((!decide (0<ah L))=true->void=aH L k i/\1=cG L k i)/\
     ((!decide (0<ah L))=false->
       true=true/\
        ((!(aI L k&&decide (k.kind=2)))=true->void=aH L k i/\190=cG L k i)/\
          ((!(aI L k&&decide (k.kind=2)))=false->
            true=true/\
             true=true/\
              ((!(decide (0<=i)&&decide (i<16)))=true->void=aH L k i/\4=cG L k i)/\
                ((!(decide (0<=i)&&decide (i<16)))=false->
                  mX k i/\jb L (aa L k) k i=aH L k i/\0=cG L k i))):=by
 have hE:∀e,aQ L k 2 false=e->e≠0->void=aH L k i/\e=cG L k i:=fun e h h0=>by
  unfold aH cG;rw[h,Xu h0,Xu h0];exact⟨rfl,rfl⟩
 refine⟨rfl,rfl,fun h=>hE _ ?_ (by omega),fun h=>⟨rfl,fun h2=>hE _ ?_ (by omega),fun h2=>⟨rfl,rfl,fun h3=>?_,fun h3=>?_⟩⟩⟩
 ·unfold aQ;unfold ah at h;rw[Xv (by simp at h;omega)]
 ·unfold aQ;unfold ah at h;rw[Xu (by simp at h;omega),Xv (by simpa using h2)]
 ·have hA:aQ L k 2 false=0:=by
   unfold aQ;unfold ah at h;rw[Xu (by simp at h;omega),Xu (by simpa using h2),Xu (by simp)]
  rw[Bool.not_eq_true']at h3;unfold aH cG my;rw[hA,Xv rfl,h3];exact⟨rfl,rfl⟩
 ·have hA:aQ L k 2 false=0:=by
   unfold aQ;unfold ah at h;rw[Xu (by simp at h;omega),Xu (by simpa using h2),Xu (by simp)]
  obtain⟨a1,_,_⟩:=kR hA;obtain⟨b1,b2,b3,b4,_⟩:=ej a1;rw[Bool.not_eq_false']at h3;have h3':0<=i/\i<16:=by simpa using h3
  unfold aH cG my;rw[hA,Xv rfl,h3,Xv rfl,Xv rfl,b4];exact⟨⟨h3'.1,h3'.2,b1⟩,rfl,rfl⟩
theorem qx:cV Tryz.prog 147 R2:=
 jT (aM qQ (aM mL (aM fP dM))) (fun _=>rfl) fun a hq hok=>by
  obtain⟨S,k,i,_⟩:=a;cases S with
  |none=>exact aK (inl:=(fun f=>f==195||f==194)) (ann:=aO) (ab aY (ab bk (ab mI an))) az (cW gj) (Io k i) (by kernel_rfl)
  |some L=>exact aK (inl:=(fun f=>f==195||f==194)) (ann:=aO) (ab aY (ab bk (ab mI an))) az (cW gj) (OA L k i) (by kernel_rfl)
end Go.Proofs.YtlblcfaclmpekaaGreat
namespace Go.Proofs.YtlblcfaclmpekaaGreat
open Go.Sx
set_option maxRecDepth 100000
theorem Mk (k:Key) (i:Int) (v:Key):
 true=true/\
  true=true/\
   ((!decide (0<ah []))=true->void=eC [] k i v/\1=bx [] k i v)/\
     ((!decide (0<ah []))=false->
       true=true/\
        ((!(aI [] k&&decide (k.kind=2)))=true->void=eC [] k i v/\190=bx [] k i v)/\
          ((!(aI [] k&&decide (k.kind=2)))=false->
            true=true/\
             ((!decide (aT BinOp.and IntKind.i64 k.rights 3=0))=true->
               void=eC [] k i v/\191=bx [] k i v)/\
               ((!decide (aT BinOp.and IntKind.i64 k.rights 3=0))=false->
                 true=true/\
                  ((!(decide (0<=i)&&decide (i<16)))=true->
                      void=eC [] k i v/\4=bx [] k i v)/\
                    ((!(decide (0<=i)&&decide (i<16)))=false->
                      true=true/\
                       ((!(decide (bg v=0)&&(!aR v||decide (bG v<ah []))))=true->
                           void=eC [] k i v/\2=bx [] k i v)/\
                         ((!(decide (bg v=0)&&(!aR v||decide (bG v<ah []))))=false->
                           mX k i/\
                            true=true/\
                             true=true/\
                              (0<=i/\i< ↑16)/\
                               true=true/\
                                jb [] (aa [] k) k i=eC [] k i v/\0=bx [] k i v))))):=by
 refine⟨rfl,rfl,fun _=>⟨rfl,rfl⟩,fun h=>absurd h (by decide)⟩
theorem KS (k:Key) (i:Int) (v:Key):
 true=true/\
  true=true/\
   ((!decide (0<ah []))=true->void=eC [] k i v/\1=bx [] k i v)/\
     ((!decide (0<ah []))=false->
       true=true/\
        ((!(aI [] k&&decide (k.kind=2)))=true->void=eC [] k i v/\190=bx [] k i v)/\
          ((!(aI [] k&&decide (k.kind=2)))=false->
            true=true/\
             ((!decide (aT BinOp.and IntKind.i64 k.rights 3=0))=true->
               void=eC [] k i v/\191=bx [] k i v)/\
               ((!decide (aT BinOp.and IntKind.i64 k.rights 3=0))=false->
                 true=true/\
                  ((!(decide (0<=i)&&decide (i<16)))=true->
                      void=eC [] k i v/\4=bx [] k i v)/\
                    ((!(decide (0<=i)&&decide (i<16)))=false->
                      true=true/\
                       ((!(decide (bg v=0)&&(!aR v||decide (bG v<ah []))))=true->
                           void=eC [] k i v/\2=bx [] k i v)/\
                         ((!(decide (bg v=0)&&(!aR v||decide (bG v<ah []))))=false->
                           mX k i/\true=true/\true=true/\(0<=i/\i< ↑16)/\true=true/\False))))):=by
 refine⟨rfl,rfl,fun _=>⟨rfl,rfl⟩,fun h=>absurd h (by decide)⟩
theorem Oe (L:List Sx.Obj) (k:Key) (i:Int) (v:Key) (hL:aq L):
 true=true/\
  true=true/\
   ((!decide (0<ah L))=true->(void=eC L k i v/\1=bx L k i v)/\L=dg L k i v)/\
     ((!decide (0<ah L))=false->
       true=true/\
        ((!(aI L k&&decide (k.kind=2)))=true->
            (void=eC L k i v/\190=bx L k i v)/\L=dg L k i v)/\
          ((!(aI L k&&decide (k.kind=2)))=false->
            true=true/\
             ((!decide (aT BinOp.and IntKind.i64 k.rights 3=0))=true->
               (void=eC L k i v/\191=bx L k i v)/\L=dg L k i v)/\
               ((!decide (aT BinOp.and IntKind.i64 k.rights 3=0))=false->
                 true=true/\
                  ((!(decide (0<=i)&&decide (i<16)))=true->
                      (void=eC L k i v/\4=bx L k i v)/\L=dg L k i v)/\
                    ((!(decide (0<=i)&&decide (i<16)))=false->
                      true=true/\
                       ((!(decide (bg v=0)&&(!aR v||decide (bG v<ah L))))=true->
                           (void=eC L k i v/\2=bx L k i v)/\L=dg L k i v)/\
                         ((!(decide (bg v=0)&&(!aR v||decide (bG v<ah L))))=false->
                           mX k i/\
                            true=true/\
                             true=true/\
                              (0<=i/\i< ↑16)/\
                               true=true/\
                                (jb L (aa L k) k i=eC L k i v/\0=bx L k i v)/\
                                 bN L k.oid
                                   {kind:=(aa L k).kind,count:=(aa L k).count,
                                    calls:=(aa L k).calls,
                                    slots:=(aa L k).slots.put i.toNat (ae L v),
                                    bytes:=(aa L k).bytes}=
                                  dg L k i v))))):=by
 have fin:∀e,bx L k i v=e->e≠0->(void=eC L k i v/\e=bx L k i v)/\L=dg L k i v:=fun e h h0=>by
  unfold eC dg;rw[h,Xu h0,Xu h0];exact⟨⟨rfl,rfl⟩,rfl⟩
 have bad:∀e,aQ L k 2 true=e->e≠0->bx L k i v=e:=fun e h h0=>by unfold bx;rw[h,Xu h0]
 refine⟨rfl,rfl,fun h=>fin _ (bad _ (KF h) (by omega)) (by omega),fun h=>⟨rfl,fun h2=>fin _ (bad _ (G7 h h2) (by omega)) (by omega),fun h2=>⟨rfl,fun h3=>fin _ (bad _ (SN h h2 h3) (by omega)) (by omega),fun h3=>⟨rfl,fun h4=>fin 4 ?_ (by omega),fun h4=>⟨rfl,fun h5=>fin 2 ?_ (by omega),fun h5=>?_⟩⟩⟩⟩⟩
 ·rw[Bool.not_eq_true']at h4;unfold bx my;rw[Gd h h2 h3,Xv rfl,h4];rfl
 ·rw[Bool.not_eq_false']at h4;have hm:bQ L v=false:=by rw[<-rQ];rw[Bool.not_eq_true']at h5;exact h5
  unfold bx my;rw[Gd h h2 h3,Xv rfl,h4,hm];rfl
 ·rw[Bool.not_eq_false']at h4;have h4':0<=i/\i<16:=by simpa using h4
  have hm:bQ L v=true:=by rw[<-rQ];rw[Bool.not_eq_false']at h5;exact h5
  have hE:bx L k i v=0:=by
   unfold bx my;rw[Gd h h2 h3,Xv rfl,h4,hm];rfl
  obtain⟨a1,a2⟩:=mE h2;obtain⟨b1,b2,b3,b4,_⟩:=ej a1;have hp:=(nq hL a1 a2 (Bj (v:=v) hL a1 a2 h4'.1 h4'.2)).1;unfold eC dg;rw[hE,Xv rfl,Xv rfl,<-hp,b4];exact⟨⟨h4'.1,h4'.2,b1⟩,rfl,rfl,⟨h4'.1,by omega⟩,rfl,⟨rfl,rfl⟩,rfl⟩
theorem OX (L:List Sx.Obj) (k:Key) (i:Int) (v:Key) (hL:aq L):aj Tryz.prog 150 [.lp 0 0,.key k,.it .i64 i,.key v] [.store tS eS L] (AA (.tp [.key (eC L k i v),.it .i64 (bx L k i v)]) (dg L k i v)) (fun _ _=>False):=
 aK (inl:=(fun f=>f==195||f==194||f==197||f==198)) (ann:=aO) (ab aY (ab bk (ab mI (ab cF (ab fj (ab fQ an)))))) (aC cw az) (cW gj) (Oe L k i v hL) (by kernel_rfl)
theorem FE:oU Tryz.prog 150 SX:=
 lW (m:=fun x=> [.key x.1,.it .i64 x.2.1,.key x.2.2]) IE (fun _=>rfl) (fun _ _=>rfl) (fun x=>aK (inl:=(fun f=>f==195||f==194||f==197||f==198)) (ann:=aO) (ab aY (ab bk (ab mI (ab cF (ab fj (ab fQ an)))))) (aC cw az) (cW gj) (Mk x.1 x.2.1 x.2.2) (by kernel_rfl)) (fun x=>aK (inl:=(fun f=>f==195||f==194||f==197||f==198)) (ann:=aO) (ab aY (ab bk (ab mI (ab cF (ab fj (ab fQ an)))))) (aC cw az) (cW gj) (KS x.1 x.2.1 x.2.2) (by kernel_rfl)) fun L x hL _ _=>OX L x.1 x.2.1 x.2.2 hL
theorem Kx (k:Key):
 true=true/\
  true=true/\
   ((!decide (0<ah []))=true->1=aQ [] k 2 true)/\
     ((!decide (0<ah []))=false->
       true=true/\
        ((!(aI [] k&&decide (k.kind=2)))=true->190=aQ [] k 2 true)/\
          ((!(aI [] k&&decide (k.kind=2)))=false->
            true=true/\
             ((!decide (aT BinOp.and IntKind.i64 k.rights 3=0))=true->191=aQ [] k 2 true)/\
               ((!decide (aT BinOp.and IntKind.i64 k.rights 3=0))=false->
                 true=true/\true=true/\true=true/\0=aQ [] k 2 true))):=by
 refine⟨rfl,rfl,fun _=>rfl,fun h=>absurd h (by decide)⟩
theorem J3 (k:Key):
 true=true/\
  true=true/\
   ((!decide (0<ah []))=true->1=aQ [] k 2 true)/\
     ((!decide (0<ah []))=false->
       true=true/\
        ((!(aI [] k&&decide (k.kind=2)))=true->190=aQ [] k 2 true)/\
          ((!(aI [] k&&decide (k.kind=2)))=false->
            true=true/\
             ((!decide (aT BinOp.and IntKind.i64 k.rights 3=0))=true->191=aQ [] k 2 true)/\
               ((!decide (aT BinOp.and IntKind.i64 k.rights 3=0))=false->
                 true=true/\true=true/\true=true/\False))):=by
 refine⟨rfl,rfl,fun _=>rfl,fun h=>absurd h (by decide)⟩
theorem Pm (L:List Sx.Obj) (k:Key) (hL:aq L):
 true=true/\
  true=true/\
   ((!decide (0<ah L))=true->1=aQ L k 2 true/\L=fF L k)/\
     ((!decide (0<ah L))=false->
       true=true/\
        ((!(aI L k&&decide (k.kind=2)))=true->190=aQ L k 2 true/\L=fF L k)/\
          ((!(aI L k&&decide (k.kind=2)))=false->
            true=true/\
             ((!decide (aT BinOp.and IntKind.i64 k.rights 3=0))=true->
               191=aQ L k 2 true/\L=fF L k)/\
               ((!decide (aT BinOp.and IntKind.i64 k.rights 3=0))=false->
                 true=true/\
                  true=true/\
                   true=true/\
                    0=aQ L k 2 true/\
                     bN L k.oid
                       {kind:=(aa L k).kind,count:=(aa L k).count,calls:=(aa L k).calls,
                        slots:=fD,bytes:=(aa L k).bytes}=
                      fF L k))):=by
 have fin:∀e,aQ L k 2 true=e->e≠0->e=aQ L k 2 true/\L=fF L k:=fun e h h0=>by
  unfold fF;rw[h,Xu h0];exact⟨rfl,rfl⟩
 refine⟨rfl,rfl,fun h=>fin _ (KF h) (by omega),fun h=>⟨rfl,fun h2=>fin _ (G7 h h2) (by omega),fun h2=>⟨rfl,fun h3=>fin _ (SN h h2 h3) (by omega),fun h3=>⟨rfl,rfl,rfl,?_⟩⟩⟩⟩
 obtain⟨a1,a2⟩:=mE h2;have hp:=(nq hL a1 a2 (Fy (by omega))).1
 unfold fF;rw[Gd h h2 h3,Xv rfl,<-hp];exact⟨rfl,rfl⟩
theorem Ns (L:List Sx.Obj) (k:Key) (hL:aq L):aj Tryz.prog 153 [.lp 0 0,.key k] [.store tS eS L] (AA (.it .i64 (aQ L k 2 true)) (fF L k)) (fun _ _=>False):=
 aK (inl:=(fun f=>f==195||f==194||f==197||f==199)) (ann:=aO) (ab aY (ab bk an)) (aC cw az) (cW gj) (Pm L k hL) (by kernel_rfl)
theorem Ng:oU Tryz.prog 153 Sy:=
 lW (m:=fun x=> [.key x]) HF (fun _=>rfl) (fun _ _=>rfl) (fun x=>aK (inl:=(fun f=>f==195||f==194||f==197||f==199)) (ann:=aO) (ab aY (ab bk an)) (aC cw az) (cW gj) (Kx x) (by kernel_rfl)) (fun x=>aK (inl:=(fun f=>f==195||f==194||f==197||f==199)) (ann:=aO) (ab aY (ab bk an)) (aC cw az) (cW gj) (J3 x) (by kernel_rfl)) fun L x hL _ _=>Ns L x hL
theorem Md (t f:Key):
 true=true/\
  true=true/\
   ((!decide (0<ah []))=true->1=cq [] t f)/\
     ((!decide (0<ah []))=false->
       true=true/\
        ((!(aI [] t&&decide (t.kind=2)))=true->190=cq [] t f)/\
          ((!(aI [] t&&decide (t.kind=2)))=false->
            true=true/\
             ((!decide (aT BinOp.and IntKind.i64 t.rights 3=0))=true->191=cq [] t f)/\
               ((!decide (aT BinOp.and IntKind.i64 t.rights 3=0))=false->
                 true=true/\
                  true=true/\
                   ((!decide (0<ah []))=true->1=cq [] t f)/\
                     ((!decide (0<ah []))=false->
                       true=true/\
                        ((!(aI [] f&&decide (f.kind=2)))=true->190=cq [] t f)/\
                          ((!(aI [] f&&decide (f.kind=2)))=false->
                            true=true/\true=true/\true=true/\False))))):=by
 refine⟨rfl,rfl,fun _=>rfl,fun h=>absurd h (by decide)⟩
theorem K7 (t f:Key):
 true=true/\
  true=true/\
   ((!decide (0<ah []))=true->1=cq [] t f)/\
     ((!decide (0<ah []))=false->
       true=true/\
        ((!(aI [] t&&decide (t.kind=2)))=true->190=cq [] t f)/\
          ((!(aI [] t&&decide (t.kind=2)))=false->
            true=true/\
             ((!decide (aT BinOp.and IntKind.i64 t.rights 3=0))=true->191=cq [] t f)/\
               ((!decide (aT BinOp.and IntKind.i64 t.rights 3=0))=false->
                 true=true/\
                  true=true/\
                   ((!decide (0<ah []))=true->1=cq [] t f)/\
                     ((!decide (0<ah []))=false->
                       true=true/\
                        ((!(aI [] f&&decide (f.kind=2)))=true->190=cq [] t f)/\
                          ((!(aI [] f&&decide (f.kind=2)))=false->
                            true=true/\true=true/\true=true/\False))))):=by
 refine⟨rfl,rfl,fun _=>rfl,fun h=>absurd h (by decide)⟩
theorem PF (L:List Sx.Obj) (t f:Key) (hL:aq L):
 true=true/\
  true=true/\
   ((!decide (0<ah L))=true->1=cq L t f/\L=eY L t f)/\
     ((!decide (0<ah L))=false->
       true=true/\
        ((!(aI L t&&decide (t.kind=2)))=true->190=cq L t f/\L=eY L t f)/\
          ((!(aI L t&&decide (t.kind=2)))=false->
            true=true/\
             ((!decide (aT BinOp.and IntKind.i64 t.rights 3=0))=true->
               191=cq L t f/\L=eY L t f)/\
               ((!decide (aT BinOp.and IntKind.i64 t.rights 3=0))=false->
                 true=true/\
                  true=true/\
                   ((!decide (0<ah L))=true->1=cq L t f/\L=eY L t f)/\
                     ((!decide (0<ah L))=false->
                       true=true/\
                        ((!(aI L f&&decide (f.kind=2)))=true->
                            190=cq L t f/\L=eY L t f)/\
                          ((!(aI L f&&decide (f.kind=2)))=false->
                            true=true/\
                             true=true/\
                              true=true/\
                               (∃g,
                                 vC g/\
                                  0=g/\
                                   L=L/\
                                    t=t/\
                                     f=f/\
                                      t=t/\
                                       aa L t=aa L t/\
                                        t=t/\
                                         aa L t=aa L t/\
                                          aa L t=aa L t/\
                                           t=t/\
                                            f=f/\
                                             aa L f=aa L f/\
                                              f=f/\
                                               aa L f=aa L f/\
                                                aa L f=aa L f/\
                                                 f=f/\
                                                  aa L t=
                                                    fH (aa L t)
                                                     (fB L t f g)/\
                                                   t=t)/\
                                ∀(g:Int),
                                 vC g->
                                  (decide (g<16)=true->
                                    mX f g/\
                                     (0<=g/\g< ↑16)/\
                                      aL IntKind.i64 (g+1)/\
                                       ∃g',
                                        vC g'/\
                                         zV g'<zV g/\
                                          g+1=g'/\
                                           L=L/\
                                            t=t/\
                                             f=f/\
                                              t=t/\
                                               aa L t=aa L t/\
                                                t=t/\
                                                 aa L t=aa L t/\
                                                  aa L t=aa L t/\
                                                   t=t/\
                                                    f=f/\
                                                     aa L f=aa L f/\
                                                      f=f/\
                                                       aa L f=aa L f/\
                                                        aa L f=aa L f/\
                                                         f=f/\
                                                          {
                                                             kind:=
                                                              (fH
                                                                (aa L t)
                                                                (fB L t
                                                                 f
                                                                 g)).kind,
                                                             count:=
                                                              (fH
                                                                (aa L t)
                                                                (fB L t
                                                                 f
                                                                 g)).count,
                                                             calls:=
                                                              (fH
                                                                (aa L t)
                                                                (fB L t
                                                                 f
                                                                 g)).calls,
                                                             slots:=
                                                              (fH
                                                                 (aa
                                                                  L t)
                                                                 (fB
                                                                  L t f
                                                                  g)).slots.put
                                                               g.toNat
                                                               (jb L
                                                                (aa L f)
                                                                f g),
                                                             bytes:=
                                                              (fH
                                                                (aa L t)
                                                                (fB L t
                                                                 f
                                                                 g)).bytes}=
                                                            fH (aa L t)
                                                             (fB L t f
                                                              g')/\
                                                           t=t)/\
                                   (decide (g<16)=false->
                                    true=true/\
                                     0=cq L t f/\
                                      bN L t.oid (fH (aa L t) (fB L t f g))=
                                       eY L t f)))))):=by
 have fin:∀e,cq L t f=e->e≠0->e=cq L t f/\L=eY L t f:=fun e h h0=>by
  unfold eY;rw[h,Xu h0];exact⟨rfl,rfl⟩
 have bad:∀e,aQ L t 2 true=e->e≠0->cq L t f=e:=fun e h h0=>by unfold cq;rw[h,Xu h0]
 refine⟨rfl,rfl,fun h=>fin _ (bad _ (KF h) (by omega)) (by omega),fun h=>⟨rfl,fun h2=>fin _ (bad _ (G7 h h2) (by omega)) (by omega),fun h2=>⟨rfl,fun h3=>fin _ (bad _ (SN h h2 h3) (by omega)) (by omega),fun h3=>⟨rfl,rfl,fun h4=>?_,fun h4=>⟨rfl,fun h5=>fin 190 ?_ (by omega),fun h5=>⟨rfl,rfl,rfl,?_,fun g hg=>⟨fun hlt=>?_,fun hge=>?_⟩⟩⟩⟩⟩⟩⟩
 ·rw[h]at h4;simp at h4
 ·unfold cq;rw[Gd h h2 h3,Xv rfl,G7 h h5]
 ·obtain⟨a1,a2⟩:=mE h2;refine⟨0,⟨by omega,by omega⟩,?_⟩
  have:=KK (f:=f) (ej a1).2.2.2.1;repeat' apply And.intro
  all_goals first|rfl|exact this
 ·obtain⟨g0,g1⟩:=hg;have hlt:=Xs hlt;obtain⟨a1,a2⟩:=mE h5;have hs:=Kk (t:=t) g0 (ej a1).2.2.2.1 (aa L t) fD;refine⟨⟨g0,by omega,(ej a1).1⟩,⟨g0,by omega⟩,by simp only[aL,cg];omega,g+1,⟨by omega,by omega⟩,by unfold zV;omega,?_⟩
  repeat' apply And.intro
  all_goals first|rfl|exact hs
 ·obtain⟨g0,g1⟩:=hg;have hge:=Xr hge;have:g=16:=by omega
  subst this;obtain⟨a1,a2⟩:=mE h2;have hE:cq L t f=0:=by unfold cq;rw[Gd h h2 h3,Xv rfl,FA h h5]
  have hp:=(nq hL a1 a2 (wG (f:=f) hL a1 a2 16 (by omega))).1
  unfold eY;rw[hE,Xv rfl];exact⟨rfl,rfl,hp⟩
theorem Nq (L:List Sx.Obj) (t f:Key) (hL:aq L):aj Tryz.prog 155 [.lp 0 0,.key t,.key f] [.store tS eS L] (AA (.it .i64 (cq L t f)) (eY L t f)) (fun _ _=>False):=
 aK (inl:=(fun f=>f==195||f==194||f==197||f==200)) (ann:=(kg [(200,1,We [0,1,2] (fun g=> [(4,.it .i64 g)]) 0 (Xh L t f) vC zV)])) (ab aY (ab bk (ab mI an))) (aC cw az) (cW gj) (PF L t f hL) (by kernel_rfl)
theorem MN:oU Tryz.prog 155 Rw:=
 lW (m:=fun x=> [.key x.1,.key x.2]) E6 (fun _=>rfl) (fun _ _=>rfl) (fun x=>aK (inl:=(fun f=>f==195||f==194||f==197||f==200)) (ann:=aO) (ab aY (ab bk (ab mI an))) (aC cw az) (cW gj) (Md x.1 x.2) (by kernel_rfl)) (fun x=>aK (inl:=(fun f=>f==195||f==194||f==197||f==200)) (ann:=aO) (ab aY (ab bk (ab mI an))) (aC cw az) (cW gj) (K7 x.1 x.2) (by kernel_rfl)) fun L x hL _ _=>Nq L x.1 x.2 hL
end Go.Proofs.YtlblcfaclmpekaaGreat
