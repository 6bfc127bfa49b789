import Derived.Test.YtlblcfaclmpekaaGreatKS
import Derived.Test.YtlblcfaclmpekaaGreatCV
set_option linter.unusedSimpArgs false
set_option linter.unusedVariables false
namespace Go.Proofs.YtlblcfaclmpekaaGreat
open Go.Sx
set_option maxRecDepth 100000
theorem Hi (k:Key):
 ((aU []|| !decide (bT k=0))=true->void=ae [] k)/\
   ((aU []|| !decide (bT k=0))=false->
     ((aP k&& !aQ [] k)=true->void=ae [] k)/\((aP k&& !aQ [] k)=false->k=ae [] k)):=by
 exact A2 [] k
theorem K8 (L:List Sx.Obj) (k:Key):
 ((aU L|| !decide (bT k=0))=true->void=ae L k)/\
   ((aU L|| !decide (bT k=0))=false->
     ((aP k&& !aQ L k)=true->void=ae L k)/\((aP k&& !aQ L k)=false->k=ae L k)):=by
 exact A2 L k
theorem fR:dC Tryz.prog 58 Qk:=
 uU ir (fun _ _=>rfl) (fun x _=>bu (inl:=ca) (ann:=aR) (ab nY (ab fh (ab cF (ab bn au)))) (Hi x) (by kernel_rfl)) (fun L x _ _ _=>bu (inl:=ca) (ann:=aR) (ab nY (ab fh (ab cF (ab bn au)))) (K8 L x) (by kernel_rfl)) fun _=>rfl
end Go.Proofs.YtlblcfaclmpekaaGreat
namespace Go.Sx
def Uf (nid:Nat):V:= .mp nid
def UQ (nid:Nat):List aB:= [.mp .i64 [2,3,1,8] [.fn 240 [.lp (nid+1) 0],.fn 240 [.lp (nid+1+1) 0],.fn 238 [],.fn 238 []],
 .blk 42 (.ci .i64 3),.blk 42 (.ci .i64 1)]
def tN:Nat:=246
def Vz (L:List Obj) (t f:Key) (g:Int):aB:= .blk tN (.ag [.ob (fC (aa L t) (ft L t f g)),.lp 0 0,.key t])
end Go.Sx
namespace Go.Proofs.YtlblcfaclmpekaaGreat
open Go.Sx
set_option maxRecDepth 100000
theorem MQ:
 true=true/\
 true=true/\
  ∀(nid:Nat),some (Uf nid)=some (Uf nid)/\some (UQ nid)=some (UQ nid):=by
 exact⟨rfl,rfl,fun nid=>⟨rfl,rfl⟩⟩
theorem MH:dC Tryz.prog 234 (yO Uf UQ):=rJ (π:= [0,1,2]) (by decide) (fun _=>rfl) (bP (inl:=(fun f=>f==239)) (ann:=aR) au aA MQ (by kernel_rfl))
theorem Fh (k:Key):
 ((!decide (bT k=0))=true->void=gn k/\2=bT k)/\
   ((!decide (bT k=0))=false->
     ((decide (k.kind=2)||(decide (k.kind=3)||(decide (k.kind=1)||decide (k.kind=8))))=true->
       (decide (k.kind=2)=true->
         true=true/\
          {kind:=k.kind,oid:=k.oid,count:=k.count,call:=k.call,
             rights:=aV BinOp.or IntKind.i64 k.rights 3,value:=k.value}=
           gn k/\
           0=bT k)/\
        (decide (k.kind=2)=false->
         (decide (k.kind=3)=true->
           true=true/\
            {kind:=k.kind,oid:=k.oid,count:=k.count,call:=k.call,
               rights:=aV BinOp.or IntKind.i64 k.rights 1,value:=k.value}=
             gn k/\
             0=bT k)/\
          (decide (k.kind=3)=false->
           (decide (k.kind=1)=true->true=true/\k=gn k/\0=bT k)/\
            (decide (k.kind=1)=false->
             (decide (k.kind=8)=true->true=true/\k=gn k/\0=bT k)/\
              (decide (k.kind=8)=false->False)))))/\
       ((decide (k.kind=2)||(decide (k.kind=3)||(decide (k.kind=1)||decide (k.kind=8))))=false->
         void=gn k/\0=bT k)):=by
 unfold gn bT;cases hok:aS k
 ·simp
 have hr:=gM hok;have o3:k.kind=2->aV BinOp.or IntKind.i64 k.rights 3=jt k.rights 3:=fun e=>Hp hr.1 (by rw[e]at hr;exact hr.2)
 have o1:k.kind=3->aV BinOp.or IntKind.i64 k.rights 1=1:=fun e=>Cf hr.1 (by rw[e]at hr;exact hr.2)
 unfold tC cz;grind
theorem yy:dC Tryz.prog 230 J4:=
 zQ ir (fun _=>rfl) fun k hk=>bP (inl:=(fun f=>f==240||f==238)) (ann:=aR) (ab fh (ab MH au)) aA (Fh k) (by kernel_rfl)
end Go.Proofs.YtlblcfaclmpekaaGreat
namespace Go.Proofs.YtlblcfaclmpekaaGreat
open Go.Sx
set_option maxRecDepth 100000
theorem Hr (o:Sx.Obj) (k:Key) (i:Int) (hq:mY k i):
 (0<=i/\i< ↑16)/\
  ((!decide (aV BinOp.and IntKind.i64 k.rights 2=0))=true->
    gn (ae [] (o.slots.at i.toNat))=iU [] o k i)/\
    ((!decide (aV BinOp.and IntKind.i64 k.rights 2=0))=false->
      ae [] (o.slots.at i.toNat)=iU [] o k i):=by
 exact EG hq
theorem NB (o:Sx.Obj) (L:List Sx.Obj) (k:Key) (i:Int) (hq:mY k i):
 (0<=i/\i< ↑16)/\
  ((!decide (aV BinOp.and IntKind.i64 k.rights 2=0))=true->
    gn (ae L (o.slots.at i.toNat))=iU L o k i)/\
    ((!decide (aV BinOp.and IntKind.i64 k.rights 2=0))=false->ae L (o.slots.at i.toNat)=iU L o k i):=by
 exact EG hq
theorem mQ:dC Tryz.prog 196 PO:=
 jY (aN (CX SL) (aN fN dX)) (fun _=>rfl) fun a hq hok=>by
  obtain⟨⟨o,S,k,_⟩,i,_⟩:=a;cases S with
  |none=>exact bu (inl:=ca) (ann:=aR) (ab fR (ab yy au)) (Hr o k i hq) (by kernel_rfl)
  |some L=>exact bu (inl:=ca) (ann:=aR) (ab fR (ab yy au)) (NB o L k i hq) (by kernel_rfl)
theorem Iz (k:Key) (i:Int):
 true=true/\
  true=true/\
   ((!decide (0<ah []))=true->void=aJ [] k i/\1=cG [] k i)/\
     ((!decide (0<ah []))=false->
       true=true/\
        ((!(aQ [] k&&decide (k.kind=2)))=true->void=aJ [] k i/\190=cG [] k i)/\
          ((!(aQ [] k&&decide (k.kind=2)))=false->
            true=true/\
             true=true/\
              ((!(decide (0<=i)&&decide (i<16)))=true->void=aJ [] k i/\4=cG [] k i)/\
                ((!(decide (0<=i)&&decide (i<16)))=false->
                  mY k i/\iU [] (aa [] k) k i=aJ [] k i/\0=cG [] k i))):=by
 have hE:∀e,aO [] k 2 false=e->e≠0->void=aJ [] k i/\e=cG [] k i:=fun e h h0=>by
  unfold aJ cG;rw[h,VM h0,VM h0];exact⟨rfl,rfl⟩
 refine⟨rfl,rfl,fun h=>hE _ ?_ (by omega),fun h=>⟨rfl,fun h2=>hE _ ?_ (by omega),fun h2=>⟨rfl,rfl,fun h3=>?_,fun h3=>?_⟩⟩⟩
 ·unfold aO;unfold ah at h;rw[VN (by simp at h;omega)]
 ·unfold aO;unfold ah at h;rw[VM (by simp at h;omega),VN (by simpa using h2)]
 ·have hA:aO [] k 2 false=0:=by
   unfold aO;unfold ah at h;rw[VM (by simp at h;omega),VM (by simpa using h2),VM (by simp)]
  rw[Bool.not_eq_true']at h3;unfold aJ cG mo;rw[hA,VN rfl,h3];exact⟨rfl,rfl⟩
 ·have hA:aO [] k 2 false=0:=by
   unfold aO;unfold ah at h;rw[VM (by simp at h;omega),VM (by simpa using h2),VM (by simp)]
  obtain⟨a1,_,_⟩:=kM hA;obtain⟨b1,b2,b3,b4,_⟩:=eH a1;rw[Bool.not_eq_false']at h3;have h3':0<=i/\i<16:=by simpa using h3
  unfold aJ cG mo;rw[hA,VN rfl,h3,VN rfl,VN rfl,b4];exact⟨⟨h3'.1,h3'.2,b1⟩,rfl,rfl⟩
theorem MF (L:List Sx.Obj) (k:Key) (i:Int):
 true=true/\
  true=true/\
   ((!decide (0<ah L))=true->void=aJ L k i/\1=cG L k i)/\
     ((!decide (0<ah L))=false->
       true=true/\
        ((!(aQ L k&&decide (k.kind=2)))=true->void=aJ L k i/\190=cG L k i)/\
          ((!(aQ L k&&decide (k.kind=2)))=false->
            true=true/\
             true=true/\
              ((!(decide (0<=i)&&decide (i<16)))=true->void=aJ L k i/\4=cG L k i)/\
                ((!(decide (0<=i)&&decide (i<16)))=false->
                  mY k i/\iU L (aa L k) k i=aJ L k i/\0=cG L k i))):=by
 have hE:∀e,aO L k 2 false=e->e≠0->void=aJ L k i/\e=cG L k i:=fun e h h0=>by
  unfold aJ cG;rw[h,VM h0,VM h0];exact⟨rfl,rfl⟩
 refine⟨rfl,rfl,fun h=>hE _ ?_ (by omega),fun h=>⟨rfl,fun h2=>hE _ ?_ (by omega),fun h2=>⟨rfl,rfl,fun h3=>?_,fun h3=>?_⟩⟩⟩
 ·unfold aO;unfold ah at h;rw[VN (by simp at h;omega)]
 ·unfold aO;unfold ah at h;rw[VM (by simp at h;omega),VN (by simpa using h2)]
 ·have hA:aO L k 2 false=0:=by
   unfold aO;unfold ah at h;rw[VM (by simp at h;omega),VM (by simpa using h2),VM (by simp)]
  rw[Bool.not_eq_true']at h3;unfold aJ cG mo;rw[hA,VN rfl,h3];exact⟨rfl,rfl⟩
 ·have hA:aO L k 2 false=0:=by
   unfold aO;unfold ah at h;rw[VM (by simp at h;omega),VM (by simpa using h2),VM (by simp)]
  obtain⟨a1,_,_⟩:=kM hA;obtain⟨b1,b2,b3,b4,_⟩:=eH a1;rw[Bool.not_eq_false']at h3;have h3':0<=i/\i<16:=by simpa using h3
  unfold aJ cG mo;rw[hA,VN rfl,h3,VN rfl,VN rfl,b4];exact⟨⟨h3'.1,h3'.2,b1⟩,rfl,rfl⟩
theorem qt:dC Tryz.prog 147 PQ:=
 jY (aN qK (aN mG (aN fN dX))) (fun _=>rfl) fun a hq hok=>by
  obtain⟨S,k,i,_⟩:=a;cases S with
  |none=>exact aL (inl:=(fun f=>f==195||f==194)) (ann:=aR) (ab ba (ab bn (ab mQ au))) aA (cZ gk) (Iz k i) (by kernel_rfl)
  |some L=>exact aL (inl:=(fun f=>f==195||f==194)) (ann:=aR) (ab ba (ab bn (ab mQ au))) aA (cZ gk) (MF L k i) (by kernel_rfl)
end Go.Proofs.YtlblcfaclmpekaaGreat
namespace Go.Proofs.YtlblcfaclmpekaaGreat
open Go.Sx
set_option maxRecDepth 100000
theorem IW (k:Key) (i:Int) (v:Key):
 true=true/\
  true=true/\
   ((!decide (0<ah []))=true->void=ew [] k i v/\1=bB [] k i v)/\
     ((!decide (0<ah []))=false->
       true=true/\
        ((!(aQ [] k&&decide (k.kind=2)))=true->void=ew [] k i v/\190=bB [] k i v)/\
          ((!(aQ [] k&&decide (k.kind=2)))=false->
            true=true/\
             ((!decide (aV BinOp.and IntKind.i64 k.rights 3=0))=true->
               void=ew [] k i v/\191=bB [] k i v)/\
               ((!decide (aV BinOp.and IntKind.i64 k.rights 3=0))=false->
                 true=true/\
                  ((!(decide (0<=i)&&decide (i<16)))=true->
                      void=ew [] k i v/\4=bB [] k i v)/\
                    ((!(decide (0<=i)&&decide (i<16)))=false->
                      true=true/\
                       ((!(decide (bT v=0)&&(!aP v||decide (bH v<ah []))))=true->
                           void=ew [] k i v/\2=bB [] k i v)/\
                         ((!(decide (bT v=0)&&(!aP v||decide (bH v<ah []))))=false->
                           mY k i/\
                            true=true/\
                             true=true/\
                              (0<=i/\i< ↑16)/\
                               true=true/\
                                iU [] (aa [] k) k i=ew [] k i v/\0=bB [] k i v))))):=by
 refine⟨rfl,rfl,fun _=>⟨rfl,rfl⟩,fun h=>absurd h (by decide)⟩
theorem JJ (k:Key) (i:Int) (v:Key):
 true=true/\
  true=true/\
   ((!decide (0<ah []))=true->void=ew [] k i v/\1=bB [] k i v)/\
     ((!decide (0<ah []))=false->
       true=true/\
        ((!(aQ [] k&&decide (k.kind=2)))=true->void=ew [] k i v/\190=bB [] k i v)/\
          ((!(aQ [] k&&decide (k.kind=2)))=false->
            true=true/\
             ((!decide (aV BinOp.and IntKind.i64 k.rights 3=0))=true->
               void=ew [] k i v/\191=bB [] k i v)/\
               ((!decide (aV BinOp.and IntKind.i64 k.rights 3=0))=false->
                 true=true/\
                  ((!(decide (0<=i)&&decide (i<16)))=true->
                      void=ew [] k i v/\4=bB [] k i v)/\
                    ((!(decide (0<=i)&&decide (i<16)))=false->
                      true=true/\
                       ((!(decide (bT v=0)&&(!aP v||decide (bH v<ah []))))=true->
                           void=ew [] k i v/\2=bB [] k i v)/\
                         ((!(decide (bT v=0)&&(!aP v||decide (bH v<ah []))))=false->
                           mY k i/\true=true/\true=true/\(0<=i/\i< ↑16)/\true=true/\False))))):=by
 refine⟨rfl,rfl,fun _=>⟨rfl,rfl⟩,fun h=>absurd h (by decide)⟩
theorem MD (L:List Sx.Obj) (k:Key) (i:Int) (v:Key) (hL:ar L):
 true=true/\
  true=true/\
   ((!decide (0<ah L))=true->(void=ew L k i v/\1=bB L k i v)/\L=dN L k i v)/\
     ((!decide (0<ah L))=false->
       true=true/\
        ((!(aQ L k&&decide (k.kind=2)))=true->
            (void=ew L k i v/\190=bB L k i v)/\L=dN L k i v)/\
          ((!(aQ L k&&decide (k.kind=2)))=false->
            true=true/\
             ((!decide (aV BinOp.and IntKind.i64 k.rights 3=0))=true->
               (void=ew L k i v/\191=bB L k i v)/\L=dN L k i v)/\
               ((!decide (aV BinOp.and IntKind.i64 k.rights 3=0))=false->
                 true=true/\
                  ((!(decide (0<=i)&&decide (i<16)))=true->
                      (void=ew L k i v/\4=bB L k i v)/\L=dN L k i v)/\
                    ((!(decide (0<=i)&&decide (i<16)))=false->
                      true=true/\
                       ((!(decide (bT v=0)&&(!aP v||decide (bH v<ah L))))=true->
                           (void=ew L k i v/\2=bB L k i v)/\L=dN L k i v)/\
                         ((!(decide (bT v=0)&&(!aP v||decide (bH v<ah L))))=false->
                           mY k i/\
                            true=true/\
                             true=true/\
                              (0<=i/\i< ↑16)/\
                               true=true/\
                                (iU L (aa L k) k i=ew L k i v/\0=bB L k i v)/\
                                 bO L k.oid
                                   {kind:=(aa L k).kind,count:=(aa L k).count,
                                    calls:=(aa L k).calls,
                                    slots:=(aa L k).slots.put i.toNat (ae L v),
                                    bytes:=(aa L k).bytes}=
                                  dN L k i v))))):=by
 have fin:∀e,bB L k i v=e->e≠0->(void=ew L k i v/\e=bB L k i v)/\L=dN L k i v:=fun e h h0=>by
  unfold ew dN;rw[h,VM h0,VM h0];exact⟨⟨rfl,rfl⟩,rfl⟩
 have bad:∀e,aO L k 2 true=e->e≠0->bB L k i v=e:=fun e h h0=>by unfold bB;rw[h,VM h0]
 refine⟨rfl,rfl,fun h=>fin _ (bad _ (Jc h) (by omega)) (by omega),fun h=>⟨rfl,fun h2=>fin _ (bad _ (Gl h h2) (by omega)) (by omega),fun h2=>⟨rfl,fun h3=>fin _ (bad _ (Px h h2 h3) (by omega)) (by omega),fun h3=>⟨rfl,fun h4=>fin 4 ?_ (by omega),fun h4=>⟨rfl,fun h5=>fin 2 ?_ (by omega),fun h5=>?_⟩⟩⟩⟩⟩
 ·rw[Bool.not_eq_true']at h4;unfold bB mo;rw[F2 h h2 h3,VN rfl,h4];rfl
 ·rw[Bool.not_eq_false']at h4;have hm:bQ L v=false:=by rw[<-rv];rw[Bool.not_eq_true']at h5;exact h5
  unfold bB mo;rw[F2 h h2 h3,VN rfl,h4,hm];rfl
 ·rw[Bool.not_eq_false']at h4;have h4':0<=i/\i<16:=by simpa using h4
  have hm:bQ L v=true:=by rw[<-rv];rw[Bool.not_eq_false']at h5;exact h5
  have hE:bB L k i v=0:=by
   unfold bB mo;rw[F2 h h2 h3,VN rfl,h4,hm];rfl
  obtain⟨a1,a2⟩:=lX h2;obtain⟨b1,b2,b3,b4,_⟩:=eH a1;have hp:=(ng hL a1 a2 (BT (v:=v) hL a1 a2 h4'.1 h4'.2)).1;unfold ew dN;rw[hE,VN rfl,VN rfl,<-hp,b4];exact⟨⟨h4'.1,h4'.2,b1⟩,rfl,rfl,⟨h4'.1,by omega⟩,rfl,⟨rfl,rfl⟩,rfl⟩
theorem N5 (L:List Sx.Obj) (k:Key) (i:Int) (v:Key) (hL:ar L):aj Tryz.prog 150 [.lp 0 0,.key k,.it .i64 i,.key v] [.store tS eS L] (zt (.tp [.key (ew L k i v),.it .i64 (bB L k i v)]) (dN L k i v)) (fun _ _=>False):=
 aL (inl:=(fun f=>f==195||f==194||f==197||f==198)) (ann:=aR) (ab ba (ab bn (ab mQ (ab cF (ab fh (ab fR au)))))) (aE cw aA) (cZ gk) (MD L k i v hL) (by kernel_rfl)
theorem Eh:oP Tryz.prog 150 Qt:=
 mf (m:=fun x=> [.key x.1,.it .i64 x.2.1,.key x.2.2]) Ia (fun _=>rfl) (fun _ _=>rfl) (fun x=>aL (inl:=(fun f=>f==195||f==194||f==197||f==198)) (ann:=aR) (ab ba (ab bn (ab mQ (ab cF (ab fh (ab fR au)))))) (aE cw aA) (cZ gk) (IW x.1 x.2.1 x.2.2) (by kernel_rfl)) (fun x=>aL (inl:=(fun f=>f==195||f==194||f==197||f==198)) (ann:=aR) (ab ba (ab bn (ab mQ (ab cF (ab fh (ab fR au)))))) (aE cw aA) (cZ gk) (JJ x.1 x.2.1 x.2.2) (by kernel_rfl)) fun L x hL _ _=>N5 L x.1 x.2.1 x.2.2 hL
theorem HC (k:Key):
 true=true/\
  true=true/\
   ((!decide (0<ah []))=true->1=aO [] k 2 true)/\
     ((!decide (0<ah []))=false->
       true=true/\
        ((!(aQ [] k&&decide (k.kind=2)))=true->190=aO [] k 2 true)/\
          ((!(aQ [] k&&decide (k.kind=2)))=false->
            true=true/\
             ((!decide (aV BinOp.and IntKind.i64 k.rights 3=0))=true->191=aO [] k 2 true)/\
               ((!decide (aV BinOp.and IntKind.i64 k.rights 3=0))=false->
                 true=true/\true=true/\true=true/\0=aO [] k 2 true))):=by
 refine⟨rfl,rfl,fun _=>rfl,fun h=>absurd h (by decide)⟩
theorem IZ (k:Key):
 true=true/\
  true=true/\
   ((!decide (0<ah []))=true->1=aO [] k 2 true)/\
     ((!decide (0<ah []))=false->
       true=true/\
        ((!(aQ [] k&&decide (k.kind=2)))=true->190=aO [] k 2 true)/\
          ((!(aQ [] k&&decide (k.kind=2)))=false->
            true=true/\
             ((!decide (aV BinOp.and IntKind.i64 k.rights 3=0))=true->191=aO [] k 2 true)/\
               ((!decide (aV BinOp.and IntKind.i64 k.rights 3=0))=false->
                 true=true/\true=true/\true=true/\False))):=by
 refine⟨rfl,rfl,fun _=>rfl,fun h=>absurd h (by decide)⟩
theorem NZ (L:List Sx.Obj) (k:Key) (hL:ar L):
 true=true/\
  true=true/\
   ((!decide (0<ah L))=true->1=aO L k 2 true/\L=gd L k)/\
     ((!decide (0<ah L))=false->
       true=true/\
        ((!(aQ L k&&decide (k.kind=2)))=true->190=aO L k 2 true/\L=gd L k)/\
          ((!(aQ L k&&decide (k.kind=2)))=false->
            true=true/\
             ((!decide (aV BinOp.and IntKind.i64 k.rights 3=0))=true->
               191=aO L k 2 true/\L=gd L k)/\
               ((!decide (aV BinOp.and IntKind.i64 k.rights 3=0))=false->
                 true=true/\
                  true=true/\
                   true=true/\
                    0=aO L k 2 true/\
                     bO L k.oid
                       {kind:=(aa L k).kind,count:=(aa L k).count,calls:=(aa L k).calls,
                        slots:=gg,bytes:=(aa L k).bytes}=
                      gd L k))):=by
 have fin:∀e,aO L k 2 true=e->e≠0->e=aO L k 2 true/\L=gd L k:=fun e h h0=>by
  unfold gd;rw[h,VM h0];exact⟨rfl,rfl⟩
 refine⟨rfl,rfl,fun h=>fin _ (Jc h) (by omega),fun h=>⟨rfl,fun h2=>fin _ (Gl h h2) (by omega),fun h2=>⟨rfl,fun h3=>fin _ (Px h h2 h3) (by omega),fun h3=>⟨rfl,rfl,rfl,?_⟩⟩⟩⟩
 obtain⟨a1,a2⟩:=lX h2;have hp:=(ng hL a1 a2 (D8 (by omega))).1
 unfold gd;rw[F2 h h2 h3,VN rfl,<-hp];exact⟨rfl,rfl⟩
theorem Mn (L:List Sx.Obj) (k:Key) (hL:ar L):aj Tryz.prog 153 [.lp 0 0,.key k] [.store tS eS L] (zt (.it .i64 (aO L k 2 true)) (gd L k)) (fun _ _=>False):=
 aL (inl:=(fun f=>f==195||f==194||f==197||f==199)) (ann:=aR) (ab ba (ab bn au)) (aE cw aA) (cZ gk) (NZ L k hL) (by kernel_rfl)
theorem LP:oP Tryz.prog 153 QR:=
 mf (m:=fun x=> [.key x]) I8 (fun _=>rfl) (fun _ _=>rfl) (fun x=>aL (inl:=(fun f=>f==195||f==194||f==197||f==199)) (ann:=aR) (ab ba (ab bn au)) (aE cw aA) (cZ gk) (HC x) (by kernel_rfl)) (fun x=>aL (inl:=(fun f=>f==195||f==194||f==197||f==199)) (ann:=aR) (ab ba (ab bn au)) (aE cw aA) (cZ gk) (IZ x) (by kernel_rfl)) fun L x hL _ _=>Mn L x hL
theorem I6 (t f:Key):
 true=true/\
  true=true/\
   ((!decide (0<ah []))=true->1=cg [] t f)/\
     ((!decide (0<ah []))=false->
       true=true/\
        ((!(aQ [] t&&decide (t.kind=2)))=true->190=cg [] t f)/\
          ((!(aQ [] t&&decide (t.kind=2)))=false->
            true=true/\
             ((!decide (aV BinOp.and IntKind.i64 t.rights 3=0))=true->191=cg [] t f)/\
               ((!decide (aV BinOp.and IntKind.i64 t.rights 3=0))=false->
                 true=true/\
                  true=true/\
                   ((!decide (0<ah []))=true->1=cg [] t f)/\
                     ((!decide (0<ah []))=false->
                       true=true/\
                        ((!(aQ [] f&&decide (f.kind=2)))=true->190=cg [] t f)/\
                          ((!(aQ [] f&&decide (f.kind=2)))=false->
                            true=true/\true=true/\true=true/\False))))):=by
 refine⟨rfl,rfl,fun _=>rfl,fun h=>absurd h (by decide)⟩
theorem H6 (t f:Key):
 true=true/\
  true=true/\
   ((!decide (0<ah []))=true->1=cg [] t f)/\
     ((!decide (0<ah []))=false->
       true=true/\
        ((!(aQ [] t&&decide (t.kind=2)))=true->190=cg [] t f)/\
          ((!(aQ [] t&&decide (t.kind=2)))=false->
            true=true/\
             ((!decide (aV BinOp.and IntKind.i64 t.rights 3=0))=true->191=cg [] t f)/\
               ((!decide (aV BinOp.and IntKind.i64 t.rights 3=0))=false->
                 true=true/\
                  true=true/\
                   ((!decide (0<ah []))=true->1=cg [] t f)/\
                     ((!decide (0<ah []))=false->
                       true=true/\
                        ((!(aQ [] f&&decide (f.kind=2)))=true->190=cg [] t f)/\
                          ((!(aQ [] f&&decide (f.kind=2)))=false->
                            true=true/\true=true/\true=true/\False))))):=by
 refine⟨rfl,rfl,fun _=>rfl,fun h=>absurd h (by decide)⟩
theorem Ow (L:List Sx.Obj) (t f:Key) (hL:ar L):
 true=true/\
  true=true/\
   ((!decide (0<ah L))=true->1=cg L t f/\L=fA L t f)/\
     ((!decide (0<ah L))=false->
       true=true/\
        ((!(aQ L t&&decide (t.kind=2)))=true->190=cg L t f/\L=fA L t f)/\
          ((!(aQ L t&&decide (t.kind=2)))=false->
            true=true/\
             ((!decide (aV BinOp.and IntKind.i64 t.rights 3=0))=true->
               191=cg L t f/\L=fA L t f)/\
               ((!decide (aV BinOp.and IntKind.i64 t.rights 3=0))=false->
                 true=true/\
                  true=true/\
                   ((!decide (0<ah L))=true->1=cg L t f/\L=fA L t f)/\
                     ((!decide (0<ah L))=false->
                       true=true/\
                        ((!(aQ L f&&decide (f.kind=2)))=true->
                            190=cg L t f/\L=fA L t f)/\
                          ((!(aQ L f&&decide (f.kind=2)))=false->
                            true=true/\
                             true=true/\
                              true=true/\
                               (∃g,
                                 ve g/\
                                  0=g/\
                                   L=L/\
                                    t=t/\
                                     f=f/\
                                      t=t/\
                                       aa L t=aa L t/\
                                        t=t/\
                                         aa L t=aa L t/\
                                          aa L t=aa L t/\
                                           t=t/\
                                            f=f/\
                                             aa L f=aa L f/\
                                              f=f/\
                                               aa L f=aa L f/\
                                                aa L f=aa L f/\
                                                 f=f/\
                                                  aa L t=
                                                    fC (aa L t)
                                                     (ft L t f g)/\
                                                   t=t)/\
                                ∀(g:Int),
                                 ve g->
                                  (decide (g<16)=true->
                                    mY f g/\
                                     (0<=g/\g< ↑16)/\
                                      aM IntKind.i64 (g+1)/\
                                       ∃g',
                                        ve g'/\
                                         zh g'<zh g/\
                                          g+1=g'/\
                                           L=L/\
                                            t=t/\
                                             f=f/\
                                              t=t/\
                                               aa L t=aa L t/\
                                                t=t/\
                                                 aa L t=aa L t/\
                                                  aa L t=aa L t/\
                                                   t=t/\
                                                    f=f/\
                                                     aa L f=aa L f/\
                                                      f=f/\
                                                       aa L f=aa L f/\
                                                        aa L f=aa L f/\
                                                         f=f/\
                                                          {
                                                             kind:=
                                                              (fC
                                                                (aa L t)
                                                                (ft L t
                                                                 f
                                                                 g)).kind,
                                                             count:=
                                                              (fC
                                                                (aa L t)
                                                                (ft L t
                                                                 f
                                                                 g)).count,
                                                             calls:=
                                                              (fC
                                                                (aa L t)
                                                                (ft L t
                                                                 f
                                                                 g)).calls,
                                                             slots:=
                                                              (fC
                                                                 (aa
                                                                  L t)
                                                                 (ft
                                                                  L t f
                                                                  g)).slots.put
                                                               g.toNat
                                                               (iU L
                                                                (aa L f)
                                                                f g),
                                                             bytes:=
                                                              (fC
                                                                (aa L t)
                                                                (ft L t
                                                                 f
                                                                 g)).bytes}=
                                                            fC (aa L t)
                                                             (ft L t f
                                                              g')/\
                                                           t=t)/\
                                   (decide (g<16)=false->
                                    true=true/\
                                     0=cg L t f/\
                                      bO L t.oid (fC (aa L t) (ft L t f g))=
                                       fA L t f)))))):=by
 have fin:∀e,cg L t f=e->e≠0->e=cg L t f/\L=fA L t f:=fun e h h0=>by
  unfold fA;rw[h,VM h0];exact⟨rfl,rfl⟩
 have bad:∀e,aO L t 2 true=e->e≠0->cg L t f=e:=fun e h h0=>by unfold cg;rw[h,VM h0]
 refine⟨rfl,rfl,fun h=>fin _ (bad _ (Jc h) (by omega)) (by omega),fun h=>⟨rfl,fun h2=>fin _ (bad _ (Gl h h2) (by omega)) (by omega),fun h2=>⟨rfl,fun h3=>fin _ (bad _ (Px h h2 h3) (by omega)) (by omega),fun h3=>⟨rfl,rfl,fun h4=>?_,fun h4=>⟨rfl,fun h5=>fin 190 ?_ (by omega),fun h5=>⟨rfl,rfl,rfl,?_,fun g hg=>⟨fun hlt=>?_,fun hge=>?_⟩⟩⟩⟩⟩⟩⟩
 ·rw[h]at h4;simp at h4
 ·unfold cg;rw[F2 h h2 h3,VN rfl,Gl h h5]
 ·obtain⟨a1,a2⟩:=lX h2;refine⟨0,⟨by omega,by omega⟩,?_⟩
  have:=I9 (f:=f) (eH a1).2.2.2.1;repeat' apply And.intro
  all_goals first|rfl|exact this
 ·obtain⟨g0,g1⟩:=hg;have hlt:=VK hlt;obtain⟨a1,a2⟩:=lX h5;have hs:=Lk (t:=t) g0 (eH a1).2.2.2.1 (aa L t) gg;refine⟨⟨g0,by omega,(eH a1).1⟩,⟨g0,by omega⟩,by simp only[aM,cj];omega,g+1,⟨by omega,by omega⟩,by unfold zh;omega,?_⟩
  repeat' apply And.intro
  all_goals first|rfl|exact hs
 ·obtain⟨g0,g1⟩:=hg;have hge:=VJ hge;have:g=16:=by omega
  subst this;obtain⟨a1,a2⟩:=lX h2;have hE:cg L t f=0:=by unfold cg;rw[F2 h h2 h3,VN rfl,E1 h h5]
  have hp:=(ng hL a1 a2 (vJ (f:=f) hL a1 a2 16 (by omega))).1
  unfold fA;rw[hE,VN rfl];exact⟨rfl,rfl,hp⟩
theorem Nj (L:List Sx.Obj) (t f:Key) (hL:ar L):aj Tryz.prog 155 [.lp 0 0,.key t,.key f] [.store tS eS L] (zt (.it .i64 (cg L t f)) (fA L t f)) (fun _ _=>False):=
 aL (inl:=(fun f=>f==195||f==194||f==197||f==200)) (ann:=(kV [(200,1,UE [0,1,2] (fun g=> [(4,.it .i64 g)]) 0 (Vz L t f) ve zh)])) (ab ba (ab bn (ab mQ au))) (aE cw aA) (cZ gk) (Ow L t f hL) (by kernel_rfl)
theorem LH:oP Tryz.prog 155 RF:=
 mf (m:=fun x=> [.key x.1,.key x.2]) D7 (fun _=>rfl) (fun _ _=>rfl) (fun x=>aL (inl:=(fun f=>f==195||f==194||f==197||f==200)) (ann:=aR) (ab ba (ab bn (ab mQ au))) (aE cw aA) (cZ gk) (I6 x.1 x.2) (by kernel_rfl)) (fun x=>aL (inl:=(fun f=>f==195||f==194||f==197||f==200)) (ann:=aR) (ab ba (ab bn (ab mQ au))) (aE cw aA) (cZ gk) (H6 x.1 x.2) (by kernel_rfl)) fun L x hL _ _=>Nj L x.1 x.2 hL
end Go.Proofs.YtlblcfaclmpekaaGreat
