import Derived.Test.YtlblcfaclmpekaaGreatKS
import Derived.Test.YtlblcfaclmpekaaGreatCV
set_option linter.unusedSimpArgs false
set_option linter.unusedVariables false
namespace Go.Proofs.YtlblcfaclmpekaaGreat
open Go.Sx
set_option maxRecDepth 100000
theorem GJ (k:Key):
 ((bc []|| !decide (bM k=0))=true->void=ae [] k)/\
   ((bc []|| !decide (bM k=0))=false->
     ((aN k&& !aO [] k)=true->void=ae [] k)/\((aN k&& !aO [] k)=false->k=ae [] k)):=by
 exact BS [] k
theorem Hz (L:List Sx.Obj) (k:Key):
 ((bc L|| !decide (bM k=0))=true->void=ae L k)/\
   ((bc L|| !decide (bM k=0))=false->
     ((aN k&& !aO L k)=true->void=ae L k)/\((aN k&& !aO L k)=false->k=ae L k)):=by
 exact BS L k
theorem fJ:dA Tryz.prog 58 Qb:=
 uM h9 (fun _ _=>rfl) (fun x _=>bx (inl:=cw) (ann:=aQ) (ab nR (ab eV (ab cy (ab bj aq)))) (GJ x) (by kernel_rfl)) (fun L x _ _ _=>bx (inl:=cw) (ann:=aQ) (ab nR (ab eV (ab cy (ab bj aq)))) (Hz L x) (by kernel_rfl)) fun _=>rfl
end Go.Proofs.YtlblcfaclmpekaaGreat
namespace Go.Sx
def TJ (nid:Nat):V:= .mp nid
def T7 (nid:Nat):List aA:= [.mp .i64 [2,3,1,8] [.fn 240 [.lp (nid+1) 0],.fn 240 [.lp (nid+1+1) 0],.fn 238 [],.fn 238 []],
 .blk 42 (.ci .i64 3),.blk 42 (.ci .i64 1)]
def tN:Nat:=246
def UK (L:List Obj) (t f:Key) (g:Int):aA:= .blk tN (.ag [.ob (fu (aa L t) (fe L t f g)),.lp 0 0,.key t])
end Go.Sx
namespace Go.Proofs.YtlblcfaclmpekaaGreat
open Go.Sx
set_option maxRecDepth 100000
theorem NN:
 true=true/\
 true=true/\
  ∀(nid:Nat),some (TJ nid)=some (TJ nid)/\some (T7 nid)=some (T7 nid):=by
 exact⟨rfl,rfl,fun nid=>⟨rfl,rfl⟩⟩
theorem NO:dA Tryz.prog 234 (x9 TJ T7):=rX (π:= [0,1,2]) (by decide) (fun _=>rfl) (bL (inl:=(fun f=>f==239)) (ann:=aQ) aq ay NN (by kernel_rfl))
theorem Fh (k:Key):
 ((!decide (bM k=0))=true->void=fU k/\2=bM k)/\
   ((!decide (bM k=0))=false->
     ((decide (k.kind=2)||(decide (k.kind=3)||(decide (k.kind=1)||decide (k.kind=8))))=true->
       (decide (k.kind=2)=true->
         true=true/\
          {kind:=k.kind,oid:=k.oid,count:=k.count,call:=k.call,
             rights:=aS BinOp.or IntKind.i64 k.rights 3,value:=k.value}=
           fU k/\
           0=bM k)/\
        (decide (k.kind=2)=false->
         (decide (k.kind=3)=true->
           true=true/\
            {kind:=k.kind,oid:=k.oid,count:=k.count,call:=k.call,
               rights:=aS BinOp.or IntKind.i64 k.rights 1,value:=k.value}=
             fU k/\
             0=bM k)/\
          (decide (k.kind=3)=false->
           (decide (k.kind=1)=true->true=true/\k=fU k/\0=bM k)/\
            (decide (k.kind=1)=false->
             (decide (k.kind=8)=true->true=true/\k=fU k/\0=bM k)/\
              (decide (k.kind=8)=false->False)))))/\
       ((decide (k.kind=2)||(decide (k.kind=3)||(decide (k.kind=1)||decide (k.kind=8))))=false->
         void=fU k/\0=bM k)):=by
 unfold fU bM;cases hok:aP k
 ·simp
 have hr:=gD hok;have o3:k.kind=2->aS BinOp.or IntKind.i64 k.rights 3=je k.rights 3:=fun e=>Ki hr.1 (by rw[e]at hr;exact hr.2)
 have o1:k.kind=3->aS BinOp.or IntKind.i64 k.rights 1=1:=fun e=>AU hr.1 (by rw[e]at hr;exact hr.2)
 unfold sK cg;grind
theorem xj:dA Tryz.prog 230 G9:=
 yI h9 (fun _=>rfl) fun k hk=>bL (inl:=(fun f=>f==240||f==238)) (ann:=aQ) (ab eV (ab NO aq)) ay (Fh k) (by kernel_rfl)
end Go.Proofs.YtlblcfaclmpekaaGreat
namespace Go.Proofs.YtlblcfaclmpekaaGreat
open Go.Sx
set_option maxRecDepth 100000
theorem Ik (o:Sx.Obj) (k:Key) (i:Int) (hq:mB k i):
 (0<=i/\i< ↑16)/\
  ((!decide (aS BinOp.and IntKind.i64 k.rights 2=0))=true->
    fU (ae [] (o.slots.at i.toNat))=iI [] o k i)/\
    ((!decide (aS BinOp.and IntKind.i64 k.rights 2=0))=false->
      ae [] (o.slots.at i.toNat)=iI [] o k i):=by
 exact Dt hq
theorem NM (o:Sx.Obj) (L:List Sx.Obj) (k:Key) (i:Int) (hq:mB k i):
 (0<=i/\i< ↑16)/\
  ((!decide (aS BinOp.and IntKind.i64 k.rights 2=0))=true->
    fU (ae L (o.slots.at i.toNat))=iI L o k i)/\
    ((!decide (aS BinOp.and IntKind.i64 k.rights 2=0))=false->ae L (o.slots.at i.toNat)=iI L o k i):=by
 exact Dt hq
theorem mc:dA Tryz.prog 196 Pw:=
 jB (aK (De Si) (aK fE dP)) (fun _=>rfl) fun a hq hok=>by
  obtain⟨⟨o,S,k,_⟩,i,_⟩:=a;cases S with
  |none=>exact bx (inl:=cw) (ann:=aQ) (ab fJ (ab xj aq)) (Ik o k i hq) (by kernel_rfl)
  |some L=>exact bx (inl:=cw) (ann:=aQ) (ab fJ (ab xj aq)) (NM o L k i hq) (by kernel_rfl)
theorem JA (k:Key) (i:Int):
 true=true/\
  true=true/\
   ((!decide (0<ah []))=true->void=aH [] k i/\1=cA [] k i)/\
     ((!decide (0<ah []))=false->
       true=true/\
        ((!(aO [] k&&decide (k.kind=2)))=true->void=aH [] k i/\190=cA [] k i)/\
          ((!(aO [] k&&decide (k.kind=2)))=false->
            true=true/\
             true=true/\
              ((!(decide (0<=i)&&decide (i<16)))=true->void=aH [] k i/\4=cA [] k i)/\
                ((!(decide (0<=i)&&decide (i<16)))=false->
                  mB k i/\iI [] (aa [] k) k i=aH [] k i/\0=cA [] k i))):=by
 have hE:∀e,aM [] k 2 false=e->e≠0->void=aH [] k i/\e=cA [] k i:=fun e h h0=>by
  unfold aH cA;rw[h,UZ h0,UZ h0];exact⟨rfl,rfl⟩
 refine⟨rfl,rfl,fun h=>hE _ ?_ (by omega),fun h=>⟨rfl,fun h2=>hE _ ?_ (by omega),fun h2=>⟨rfl,rfl,fun h3=>?_,fun h3=>?_⟩⟩⟩
 ·unfold aM;unfold ah at h;rw[U0 (by simp at h;omega)]
 ·unfold aM;unfold ah at h;rw[UZ (by simp at h;omega),U0 (by simpa using h2)]
 ·have hA:aM [] k 2 false=0:=by
   unfold aM;unfold ah at h;rw[UZ (by simp at h;omega),UZ (by simpa using h2),UZ (by simp)]
  rw[Bool.not_eq_true']at h3;unfold aH cA lK;rw[hA,U0 rfl,h3];exact⟨rfl,rfl⟩
 ·have hA:aM [] k 2 false=0:=by
   unfold aM;unfold ah at h;rw[UZ (by simp at h;omega),UZ (by simpa using h2),UZ (by simp)]
  obtain⟨a1,_,_⟩:=j9 hA;obtain⟨b1,b2,b3,b4,_⟩:=er a1;rw[Bool.not_eq_false']at h3;have h3':0<=i/\i<16:=by simpa using h3
  unfold aH cA lK;rw[hA,U0 rfl,h3,U0 rfl,U0 rfl,b4];exact⟨⟨h3'.1,h3'.2,b1⟩,rfl,rfl⟩
theorem M4 (L:List Sx.Obj) (k:Key) (i:Int):
 true=true/\
  true=true/\
   ((!decide (0<ah L))=true->void=aH L k i/\1=cA L k i)/\
     ((!decide (0<ah L))=false->
       true=true/\
        ((!(aO L k&&decide (k.kind=2)))=true->void=aH L k i/\190=cA L k i)/\
          ((!(aO L k&&decide (k.kind=2)))=false->
            true=true/\
             true=true/\
              ((!(decide (0<=i)&&decide (i<16)))=true->void=aH L k i/\4=cA L k i)/\
                ((!(decide (0<=i)&&decide (i<16)))=false->
                  mB k i/\iI L (aa L k) k i=aH L k i/\0=cA L k i))):=by
 have hE:∀e,aM L k 2 false=e->e≠0->void=aH L k i/\e=cA L k i:=fun e h h0=>by
  unfold aH cA;rw[h,UZ h0,UZ h0];exact⟨rfl,rfl⟩
 refine⟨rfl,rfl,fun h=>hE _ ?_ (by omega),fun h=>⟨rfl,fun h2=>hE _ ?_ (by omega),fun h2=>⟨rfl,rfl,fun h3=>?_,fun h3=>?_⟩⟩⟩
 ·unfold aM;unfold ah at h;rw[U0 (by simp at h;omega)]
 ·unfold aM;unfold ah at h;rw[UZ (by simp at h;omega),U0 (by simpa using h2)]
 ·have hA:aM L k 2 false=0:=by
   unfold aM;unfold ah at h;rw[UZ (by simp at h;omega),UZ (by simpa using h2),UZ (by simp)]
  rw[Bool.not_eq_true']at h3;unfold aH cA lK;rw[hA,U0 rfl,h3];exact⟨rfl,rfl⟩
 ·have hA:aM L k 2 false=0:=by
   unfold aM;unfold ah at h;rw[UZ (by simp at h;omega),UZ (by simpa using h2),UZ (by simp)]
  obtain⟨a1,_,_⟩:=j9 hA;obtain⟨b1,b2,b3,b4,_⟩:=er a1;rw[Bool.not_eq_false']at h3;have h3':0<=i/\i<16:=by simpa using h3
  unfold aH cA lK;rw[hA,U0 rfl,h3,U0 rfl,U0 rfl,b4];exact⟨⟨h3'.1,h3'.2,b1⟩,rfl,rfl⟩
theorem pM:dA Tryz.prog 147 Qr:=
 jB (aK qs (aK lZ (aK fE dP))) (fun _=>rfl) fun a hq hok=>by
  obtain⟨S,k,i,_⟩:=a;cases S with
  |none=>exact aJ (inl:=(fun f=>f==195||f==194)) (ann:=aQ) (ab aW (ab bj (ab mc aq))) ay (cN fW) (JA k i) (by kernel_rfl)
  |some L=>exact aJ (inl:=(fun f=>f==195||f==194)) (ann:=aQ) (ab aW (ab bj (ab mc aq))) ay (cN fW) (M4 L k i) (by kernel_rfl)
end Go.Proofs.YtlblcfaclmpekaaGreat
namespace Go.Proofs.YtlblcfaclmpekaaGreat
open Go.Sx
set_option maxRecDepth 100000
theorem HP (k:Key) (i:Int) (v:Key):
 true=true/\
  true=true/\
   ((!decide (0<ah []))=true->void=eh [] k i v/\1=bq [] k i v)/\
     ((!decide (0<ah []))=false->
       true=true/\
        ((!(aO [] k&&decide (k.kind=2)))=true->void=eh [] k i v/\190=bq [] k i v)/\
          ((!(aO [] k&&decide (k.kind=2)))=false->
            true=true/\
             ((!decide (aS BinOp.and IntKind.i64 k.rights 3=0))=true->
               void=eh [] k i v/\191=bq [] k i v)/\
               ((!decide (aS BinOp.and IntKind.i64 k.rights 3=0))=false->
                 true=true/\
                  ((!(decide (0<=i)&&decide (i<16)))=true->
                      void=eh [] k i v/\4=bq [] k i v)/\
                    ((!(decide (0<=i)&&decide (i<16)))=false->
                      true=true/\
                       ((!(decide (bM v=0)&&(!aN v||decide (bE v<ah []))))=true->
                           void=eh [] k i v/\2=bq [] k i v)/\
                         ((!(decide (bM v=0)&&(!aN v||decide (bE v<ah []))))=false->
                           mB k i/\
                            true=true/\
                             true=true/\
                              (0<=i/\i< ↑16)/\
                               true=true/\
                                iI [] (aa [] k) k i=eh [] k i v/\0=bq [] k i v))))):=by
 refine⟨rfl,rfl,fun _=>⟨rfl,rfl⟩,fun h=>absurd h (by decide)⟩
theorem KT (k:Key) (i:Int) (v:Key):
 true=true/\
  true=true/\
   ((!decide (0<ah []))=true->void=eh [] k i v/\1=bq [] k i v)/\
     ((!decide (0<ah []))=false->
       true=true/\
        ((!(aO [] k&&decide (k.kind=2)))=true->void=eh [] k i v/\190=bq [] k i v)/\
          ((!(aO [] k&&decide (k.kind=2)))=false->
            true=true/\
             ((!decide (aS BinOp.and IntKind.i64 k.rights 3=0))=true->
               void=eh [] k i v/\191=bq [] k i v)/\
               ((!decide (aS BinOp.and IntKind.i64 k.rights 3=0))=false->
                 true=true/\
                  ((!(decide (0<=i)&&decide (i<16)))=true->
                      void=eh [] k i v/\4=bq [] k i v)/\
                    ((!(decide (0<=i)&&decide (i<16)))=false->
                      true=true/\
                       ((!(decide (bM v=0)&&(!aN v||decide (bE v<ah []))))=true->
                           void=eh [] k i v/\2=bq [] k i v)/\
                         ((!(decide (bM v=0)&&(!aN v||decide (bE v<ah []))))=false->
                           mB k i/\true=true/\true=true/\(0<=i/\i< ↑16)/\true=true/\False))))):=by
 refine⟨rfl,rfl,fun _=>⟨rfl,rfl⟩,fun h=>absurd h (by decide)⟩
theorem MK (L:List Sx.Obj) (k:Key) (i:Int) (v:Key) (hL:an L):
 true=true/\
  true=true/\
   ((!decide (0<ah L))=true->(void=eh L k i v/\1=bq L k i v)/\L=dC L k i v)/\
     ((!decide (0<ah L))=false->
       true=true/\
        ((!(aO L k&&decide (k.kind=2)))=true->
            (void=eh L k i v/\190=bq L k i v)/\L=dC L k i v)/\
          ((!(aO L k&&decide (k.kind=2)))=false->
            true=true/\
             ((!decide (aS BinOp.and IntKind.i64 k.rights 3=0))=true->
               (void=eh L k i v/\191=bq L k i v)/\L=dC L k i v)/\
               ((!decide (aS BinOp.and IntKind.i64 k.rights 3=0))=false->
                 true=true/\
                  ((!(decide (0<=i)&&decide (i<16)))=true->
                      (void=eh L k i v/\4=bq L k i v)/\L=dC L k i v)/\
                    ((!(decide (0<=i)&&decide (i<16)))=false->
                      true=true/\
                       ((!(decide (bM v=0)&&(!aN v||decide (bE v<ah L))))=true->
                           (void=eh L k i v/\2=bq L k i v)/\L=dC L k i v)/\
                         ((!(decide (bM v=0)&&(!aN v||decide (bE v<ah L))))=false->
                           mB k i/\
                            true=true/\
                             true=true/\
                              (0<=i/\i< ↑16)/\
                               true=true/\
                                (iI L (aa L k) k i=eh L k i v/\0=bq L k i v)/\
                                 bO L k.oid
                                   {kind:=(aa L k).kind,count:=(aa L k).count,
                                    calls:=(aa L k).calls,
                                    slots:=(aa L k).slots.put i.toNat (ae L v),
                                    bytes:=(aa L k).bytes}=
                                  dC L k i v))))):=by
 have fin:∀e,bq L k i v=e->e≠0->(void=eh L k i v/\e=bq L k i v)/\L=dC L k i v:=fun e h h0=>by
  unfold eh dC;rw[h,UZ h0,UZ h0];exact⟨⟨rfl,rfl⟩,rfl⟩
 have bad:∀e,aM L k 2 true=e->e≠0->bq L k i v=e:=fun e h h0=>by unfold bq;rw[h,UZ h0]
 refine⟨rfl,rfl,fun h=>fin _ (bad _ (J0 h) (by omega)) (by omega),fun h=>⟨rfl,fun h2=>fin _ (bad _ (FT h h2) (by omega)) (by omega),fun h2=>⟨rfl,fun h3=>fin _ (bad _ (Pj h h2 h3) (by omega)) (by omega),fun h3=>⟨rfl,fun h4=>fin 4 ?_ (by omega),fun h4=>⟨rfl,fun h5=>fin 2 ?_ (by omega),fun h5=>?_⟩⟩⟩⟩⟩
 ·rw[Bool.not_eq_true']at h4;unfold bq lK;rw[F3 h h2 h3,U0 rfl,h4];rfl
 ·rw[Bool.not_eq_false']at h4;have hm:bJ L v=false:=by rw[<-rN];rw[Bool.not_eq_true']at h5;exact h5
  unfold bq lK;rw[F3 h h2 h3,U0 rfl,h4,hm];rfl
 ·rw[Bool.not_eq_false']at h4;have h4':0<=i/\i<16:=by simpa using h4
  have hm:bJ L v=true:=by rw[<-rN];rw[Bool.not_eq_false']at h5;exact h5
  have hE:bq L k i v=0:=by
   unfold bq lK;rw[F3 h h2 h3,U0 rfl,h4,hm];rfl
  obtain⟨a1,a2⟩:=lr h2;obtain⟨b1,b2,b3,b4,_⟩:=er a1;have hp:=(mV hL a1 a2 (Ar (v:=v) hL a1 a2 h4'.1 h4'.2)).1;unfold eh dC;rw[hE,U0 rfl,U0 rfl,<-hp,b4];exact⟨⟨h4'.1,h4'.2,b1⟩,rfl,rfl,⟨h4'.1,by omega⟩,rfl,⟨rfl,rfl⟩,rfl⟩
theorem Lw (L:List Sx.Obj) (k:Key) (i:Int) (v:Key) (hL:an L):aj Tryz.prog 150 [.lp 0 0,.key k,.it .i64 i,.key v] [.store tS eS L] (yZ (.tp [.key (eh L k i v),.it .i64 (bq L k i v)]) (dC L k i v)) (fun _ _=>False):=
 aJ (inl:=(fun f=>f==195||f==194||f==197||f==198)) (ann:=aQ) (ab aW (ab bj (ab mc (ab cy (ab eV (ab fJ aq)))))) (aB bY ay) (cN fW) (MK L k i v hL) (by kernel_rfl)
theorem Dz:p5 Tryz.prog 150 PM:=
 lg (m:=fun x=> [.key x.1,.it .i64 x.2.1,.key x.2.2]) JG (fun _=>rfl) (fun _ _=>rfl) (fun x=>aJ (inl:=(fun f=>f==195||f==194||f==197||f==198)) (ann:=aQ) (ab aW (ab bj (ab mc (ab cy (ab eV (ab fJ aq)))))) (aB bY ay) (cN fW) (HP x.1 x.2.1 x.2.2) (by kernel_rfl)) (fun x=>aJ (inl:=(fun f=>f==195||f==194||f==197||f==198)) (ann:=aQ) (ab aW (ab bj (ab mc (ab cy (ab eV (ab fJ aq)))))) (aB bY ay) (cN fW) (KT x.1 x.2.1 x.2.2) (by kernel_rfl)) fun L x hL _ _=>Lw L x.1 x.2.1 x.2.2 hL
theorem Kg (k:Key):
 true=true/\
  true=true/\
   ((!decide (0<ah []))=true->1=aM [] k 2 true)/\
     ((!decide (0<ah []))=false->
       true=true/\
        ((!(aO [] k&&decide (k.kind=2)))=true->190=aM [] k 2 true)/\
          ((!(aO [] k&&decide (k.kind=2)))=false->
            true=true/\
             ((!decide (aS BinOp.and IntKind.i64 k.rights 3=0))=true->191=aM [] k 2 true)/\
               ((!decide (aS BinOp.and IntKind.i64 k.rights 3=0))=false->
                 true=true/\true=true/\true=true/\0=aM [] k 2 true))):=by
 refine⟨rfl,rfl,fun _=>rfl,fun h=>absurd h (by decide)⟩
theorem G7 (k:Key):
 true=true/\
  true=true/\
   ((!decide (0<ah []))=true->1=aM [] k 2 true)/\
     ((!decide (0<ah []))=false->
       true=true/\
        ((!(aO [] k&&decide (k.kind=2)))=true->190=aM [] k 2 true)/\
          ((!(aO [] k&&decide (k.kind=2)))=false->
            true=true/\
             ((!decide (aS BinOp.and IntKind.i64 k.rights 3=0))=true->191=aM [] k 2 true)/\
               ((!decide (aS BinOp.and IntKind.i64 k.rights 3=0))=false->
                 true=true/\true=true/\true=true/\False))):=by
 refine⟨rfl,rfl,fun _=>rfl,fun h=>absurd h (by decide)⟩
theorem MB (L:List Sx.Obj) (k:Key) (hL:an L):
 true=true/\
  true=true/\
   ((!decide (0<ah L))=true->1=aM L k 2 true/\L=fS L k)/\
     ((!decide (0<ah L))=false->
       true=true/\
        ((!(aO L k&&decide (k.kind=2)))=true->190=aM L k 2 true/\L=fS L k)/\
          ((!(aO L k&&decide (k.kind=2)))=false->
            true=true/\
             ((!decide (aS BinOp.and IntKind.i64 k.rights 3=0))=true->
               191=aM L k 2 true/\L=fS L k)/\
               ((!decide (aS BinOp.and IntKind.i64 k.rights 3=0))=false->
                 true=true/\
                  true=true/\
                   true=true/\
                    0=aM L k 2 true/\
                     bO L k.oid
                       {kind:=(aa L k).kind,count:=(aa L k).count,calls:=(aa L k).calls,
                        slots:=fT,bytes:=(aa L k).bytes}=
                      fS L k))):=by
 have fin:∀e,aM L k 2 true=e->e≠0->e=aM L k 2 true/\L=fS L k:=fun e h h0=>by
  unfold fS;rw[h,UZ h0];exact⟨rfl,rfl⟩
 refine⟨rfl,rfl,fun h=>fin _ (J0 h) (by omega),fun h=>⟨rfl,fun h2=>fin _ (FT h h2) (by omega),fun h2=>⟨rfl,fun h3=>fin _ (Pj h h2 h3) (by omega),fun h3=>⟨rfl,rfl,rfl,?_⟩⟩⟩⟩
 obtain⟨a1,a2⟩:=lr h2;have hp:=(mV hL a1 a2 (Ev (by omega))).1
 unfold fS;rw[F3 h h2 h3,U0 rfl,<-hp];exact⟨rfl,rfl⟩
theorem Ma (L:List Sx.Obj) (k:Key) (hL:an L):aj Tryz.prog 153 [.lp 0 0,.key k] [.store tS eS L] (yZ (.it .i64 (aM L k 2 true)) (fS L k)) (fun _ _=>False):=
 aJ (inl:=(fun f=>f==195||f==194||f==197||f==199)) (ann:=aQ) (ab aW (ab bj aq)) (aB bY ay) (cN fW) (MB L k hL) (by kernel_rfl)
theorem Nj:p5 Tryz.prog 153 O0:=
 lg (m:=fun x=> [.key x]) J8 (fun _=>rfl) (fun _ _=>rfl) (fun x=>aJ (inl:=(fun f=>f==195||f==194||f==197||f==199)) (ann:=aQ) (ab aW (ab bj aq)) (aB bY ay) (cN fW) (Kg x) (by kernel_rfl)) (fun x=>aJ (inl:=(fun f=>f==195||f==194||f==197||f==199)) (ann:=aQ) (ab aW (ab bj aq)) (aB bY ay) (cN fW) (G7 x) (by kernel_rfl)) fun L x hL _ _=>Ma L x hL
theorem JN (t f:Key):
 true=true/\
  true=true/\
   ((!decide (0<ah []))=true->1=b6 [] t f)/\
     ((!decide (0<ah []))=false->
       true=true/\
        ((!(aO [] t&&decide (t.kind=2)))=true->190=b6 [] t f)/\
          ((!(aO [] t&&decide (t.kind=2)))=false->
            true=true/\
             ((!decide (aS BinOp.and IntKind.i64 t.rights 3=0))=true->191=b6 [] t f)/\
               ((!decide (aS BinOp.and IntKind.i64 t.rights 3=0))=false->
                 true=true/\
                  true=true/\
                   ((!decide (0<ah []))=true->1=b6 [] t f)/\
                     ((!decide (0<ah []))=false->
                       true=true/\
                        ((!(aO [] f&&decide (f.kind=2)))=true->190=b6 [] t f)/\
                          ((!(aO [] f&&decide (f.kind=2)))=false->
                            true=true/\true=true/\true=true/\False))))):=by
 refine⟨rfl,rfl,fun _=>rfl,fun h=>absurd h (by decide)⟩
theorem Ku (t f:Key):
 true=true/\
  true=true/\
   ((!decide (0<ah []))=true->1=b6 [] t f)/\
     ((!decide (0<ah []))=false->
       true=true/\
        ((!(aO [] t&&decide (t.kind=2)))=true->190=b6 [] t f)/\
          ((!(aO [] t&&decide (t.kind=2)))=false->
            true=true/\
             ((!decide (aS BinOp.and IntKind.i64 t.rights 3=0))=true->191=b6 [] t f)/\
               ((!decide (aS BinOp.and IntKind.i64 t.rights 3=0))=false->
                 true=true/\
                  true=true/\
                   ((!decide (0<ah []))=true->1=b6 [] t f)/\
                     ((!decide (0<ah []))=false->
                       true=true/\
                        ((!(aO [] f&&decide (f.kind=2)))=true->190=b6 [] t f)/\
                          ((!(aO [] f&&decide (f.kind=2)))=false->
                            true=true/\true=true/\true=true/\False))))):=by
 refine⟨rfl,rfl,fun _=>rfl,fun h=>absurd h (by decide)⟩
theorem MN (L:List Sx.Obj) (t f:Key) (hL:an L):
 true=true/\
  true=true/\
   ((!decide (0<ah L))=true->1=b6 L t f/\L=fq L t f)/\
     ((!decide (0<ah L))=false->
       true=true/\
        ((!(aO L t&&decide (t.kind=2)))=true->190=b6 L t f/\L=fq L t f)/\
          ((!(aO L t&&decide (t.kind=2)))=false->
            true=true/\
             ((!decide (aS BinOp.and IntKind.i64 t.rights 3=0))=true->
               191=b6 L t f/\L=fq L t f)/\
               ((!decide (aS BinOp.and IntKind.i64 t.rights 3=0))=false->
                 true=true/\
                  true=true/\
                   ((!decide (0<ah L))=true->1=b6 L t f/\L=fq L t f)/\
                     ((!decide (0<ah L))=false->
                       true=true/\
                        ((!(aO L f&&decide (f.kind=2)))=true->
                            190=b6 L t f/\L=fq L t f)/\
                          ((!(aO L f&&decide (f.kind=2)))=false->
                            true=true/\
                             true=true/\
                              true=true/\
                               (∃g,
                                 uF g/\
                                  0=g/\
                                   L=L/\
                                    t=t/\
                                     f=f/\
                                      t=t/\
                                       aa L t=aa L t/\
                                        t=t/\
                                         aa L t=aa L t/\
                                          aa L t=aa L t/\
                                           t=t/\
                                            f=f/\
                                             aa L f=aa L f/\
                                              f=f/\
                                               aa L f=aa L f/\
                                                aa L f=aa L f/\
                                                 f=f/\
                                                  aa L t=
                                                    fu (aa L t)
                                                     (fe L t f g)/\
                                                   t=t)/\
                                ∀(g:Int),
                                 uF g->
                                  (decide (g<16)=true->
                                    mB f g/\
                                     (0<=g/\g< ↑16)/\
                                      aL IntKind.i64 (g+1)/\
                                       ∃g',
                                        uF g'/\
                                         zq g'<zq g/\
                                          g+1=g'/\
                                           L=L/\
                                            t=t/\
                                             f=f/\
                                              t=t/\
                                               aa L t=aa L t/\
                                                t=t/\
                                                 aa L t=aa L t/\
                                                  aa L t=aa L t/\
                                                   t=t/\
                                                    f=f/\
                                                     aa L f=aa L f/\
                                                      f=f/\
                                                       aa L f=aa L f/\
                                                        aa L f=aa L f/\
                                                         f=f/\
                                                          {
                                                             kind:=
                                                              (fu
                                                                (aa L t)
                                                                (fe L t
                                                                 f
                                                                 g)).kind,
                                                             count:=
                                                              (fu
                                                                (aa L t)
                                                                (fe L t
                                                                 f
                                                                 g)).count,
                                                             calls:=
                                                              (fu
                                                                (aa L t)
                                                                (fe L t
                                                                 f
                                                                 g)).calls,
                                                             slots:=
                                                              (fu
                                                                 (aa
                                                                  L t)
                                                                 (fe
                                                                  L t f
                                                                  g)).slots.put
                                                               g.toNat
                                                               (iI L
                                                                (aa L f)
                                                                f g),
                                                             bytes:=
                                                              (fu
                                                                (aa L t)
                                                                (fe L t
                                                                 f
                                                                 g)).bytes}=
                                                            fu (aa L t)
                                                             (fe L t f
                                                              g')/\
                                                           t=t)/\
                                   (decide (g<16)=false->
                                    true=true/\
                                     0=b6 L t f/\
                                      bO L t.oid (fu (aa L t) (fe L t f g))=
                                       fq L t f)))))):=by
 have fin:∀e,b6 L t f=e->e≠0->e=b6 L t f/\L=fq L t f:=fun e h h0=>by
  unfold fq;rw[h,UZ h0];exact⟨rfl,rfl⟩
 have bad:∀e,aM L t 2 true=e->e≠0->b6 L t f=e:=fun e h h0=>by unfold b6;rw[h,UZ h0]
 refine⟨rfl,rfl,fun h=>fin _ (bad _ (J0 h) (by omega)) (by omega),fun h=>⟨rfl,fun h2=>fin _ (bad _ (FT h h2) (by omega)) (by omega),fun h2=>⟨rfl,fun h3=>fin _ (bad _ (Pj h h2 h3) (by omega)) (by omega),fun h3=>⟨rfl,rfl,fun h4=>?_,fun h4=>⟨rfl,fun h5=>fin 190 ?_ (by omega),fun h5=>⟨rfl,rfl,rfl,?_,fun g hg=>⟨fun hlt=>?_,fun hge=>?_⟩⟩⟩⟩⟩⟩⟩
 ·rw[h]at h4;simp at h4
 ·unfold b6;rw[F3 h h2 h3,U0 rfl,FT h h5]
 ·obtain⟨a1,a2⟩:=lr h2;refine⟨0,⟨by omega,by omega⟩,?_⟩
  have:=Hn (f:=f) (er a1).2.2.2.1;repeat' apply And.intro
  all_goals first|rfl|exact this
 ·obtain⟨g0,g1⟩:=hg;have hlt:=UX hlt;obtain⟨a1,a2⟩:=lr h5;have hs:=Jc (t:=t) g0 (er a1).2.2.2.1 (aa L t) fT;refine⟨⟨g0,by omega,(er a1).1⟩,⟨g0,by omega⟩,by simp only[aL,b7];omega,g+1,⟨by omega,by omega⟩,by unfold zq;omega,?_⟩
  repeat' apply And.intro
  all_goals first|rfl|exact hs
 ·obtain⟨g0,g1⟩:=hg;have hge:=UW hge;have:g=16:=by omega
  subst this;obtain⟨a1,a2⟩:=lr h2;have hE:b6 L t f=0:=by unfold b6;rw[F3 h h2 h3,U0 rfl,Ee h h5]
  have hp:=(mV hL a1 a2 (wP (f:=f) hL a1 a2 16 (by omega))).1
  unfold fq;rw[hE,U0 rfl];exact⟨rfl,rfl,hp⟩
theorem Mb (L:List Sx.Obj) (t f:Key) (hL:an L):aj Tryz.prog 155 [.lp 0 0,.key t,.key f] [.store tS eS L] (yZ (.it .i64 (b6 L t f)) (fq L t f)) (fun _ _=>False):=
 aJ (inl:=(fun f=>f==195||f==194||f==197||f==200)) (ann:=(kW [(200,1,TW [0,1,2] (fun g=> [(4,.it .i64 g)]) 0 (UK L t f) uF zq)])) (ab aW (ab bj (ab mc aq))) (aB bY ay) (cN fW) (MN L t f hL) (by kernel_rfl)
theorem NL:p5 Tryz.prog 155 Px:=
 lg (m:=fun x=> [.key x.1,.key x.2]) DN (fun _=>rfl) (fun _ _=>rfl) (fun x=>aJ (inl:=(fun f=>f==195||f==194||f==197||f==200)) (ann:=aQ) (ab aW (ab bj (ab mc aq))) (aB bY ay) (cN fW) (JN x.1 x.2) (by kernel_rfl)) (fun x=>aJ (inl:=(fun f=>f==195||f==194||f==197||f==200)) (ann:=aQ) (ab aW (ab bj (ab mc aq))) (aB bY ay) (cN fW) (Ku x.1 x.2) (by kernel_rfl)) fun L x hL _ _=>Mb L x.1 x.2 hL
end Go.Proofs.YtlblcfaclmpekaaGreat
