import Derived.Test.YtlblcfaclmpekaaGreatCN
import Derived.Test.YtlblcfaclmpekaaGreatKS
import Derived.Test.YtlblcfaclmpekaaGreatSpP
set_option linter.unusedSimpArgs false
set_option linter.unusedVariables false
namespace Go.Proofs.YtlblcfaclmpekaaGreat
open Go.Sx
set_option maxRecDepth 100000
theorem F4 (i n:Int):
 ((decide (0<=i)&&decide (0<=n)&&decide (i<=64))=true->aL IntKind.i64 (64-i))/\
   (decide (0<=i)&&decide (0<=n)&&decide (i<=64)&&decide (n<=64-i))=dC i n:=by
 unfold dC;refine⟨fun h=>?_,?_⟩
 ·simp only[Xo,Xp]at h;simp only[aL,cg];omega
 ·rfl
theorem np:cV Tryz.prog 205 Ld:=
 uo (gi .i64) (gi .i64) (fun _ _=>rfl) fun i n _ _=>bd (inl:=bS) (ann:=aO) an (F4 i n) (by kernel_rfl)
theorem Hq (k:Key) (i n:Int):
 true=true/\
  (decide (ah []=0)=true->(⟨#[]⟩:ByteArray)=dW [] k i n/\1=bY [] k i n)/\
   (decide (ah []=0)=false->
    ((!aI [] k|| !decide (k.kind=3))=true->
      (⟨#[]⟩:ByteArray)=dW [] k i n/\190=bY [] k i n)/\
      ((!aI [] k|| !decide (k.kind=3))=false->
        ((!dC i n)=true->(⟨#[]⟩:ByteArray)=dW [] k i n/\4=bY [] k i n)/\
          ((!dC i n)=false->
            aL IntKind.i64 (i+n)/\
             Bf i (i+n) 64/\
              xQ (aa [] k).bytes i.toNat (i+n).toNat=dW [] k i n/\0=bY [] k i n))):=by
 refine⟨rfl,fun h=>sN (I5 h) (by omega),fun h=>⟨fun h2=>sN (Ti h h2) (by omega),fun h2=>⟨fun h3=>B8 (TZ h h2) h3,fun h3=>?_⟩⟩⟩
 rw[(ej (pE h2).1).2.2.2.1];exact Ev (TZ h h2) h3
theorem Kz (L:List Sx.Obj) (k:Key) (i n:Int):
 true=true/\
  (decide (ah L=0)=true->(⟨#[]⟩:ByteArray)=dW L k i n/\1=bY L k i n)/\
   (decide (ah L=0)=false->
    ((!aI L k|| !decide (k.kind=3))=true->
      (⟨#[]⟩:ByteArray)=dW L k i n/\190=bY L k i n)/\
      ((!aI L k|| !decide (k.kind=3))=false->
        ((!dC i n)=true->(⟨#[]⟩:ByteArray)=dW L k i n/\4=bY L k i n)/\
          ((!dC i n)=false->
            aL IntKind.i64 (i+n)/\
             Bf i (i+n) 64/\
              xQ (aa L k).bytes i.toNat (i+n).toNat=dW L k i n/\0=bY L k i n))):=by
 refine⟨rfl,fun h=>sN (I5 h) (by omega),fun h=>⟨fun h2=>sN (Ti h h2) (by omega),fun h2=>⟨fun h3=>B8 (TZ h h2) h3,fun h3=>?_⟩⟩⟩
 rw[(ej (pE h2).1).2.2.2.1];exact Ev (TZ h h2) h3
theorem nE:cV Tryz.prog 203 N3:=
 jT (aM qQ (aM mL (aM fP (aM fP dM)))) (fun _=>rfl) fun a hq hok=>by
  obtain⟨S,k,i,n,_⟩:=a;cases S with
  |none=>exact bK (inl:=(fun f=>f==204)) (ann:=aO) (ab aY (ab bk (ab np an))) az (Hq k i n) (by kernel_rfl)
  |some L=>exact bK (inl:=(fun f=>f==204)) (ann:=aO) (ab aY (ab bk (ab np an))) az (Kz L k i n) (by kernel_rfl)
end Go.Proofs.YtlblcfaclmpekaaGreat
namespace Go.Proofs.YtlblcfaclmpekaaGreat
open Go.Sx
set_option maxRecDepth 100000
theorem M9 (k:Key) (i:Int) (s:ByteArray):
 true=true/\
  (decide (ah []=0)=true->1=cX [] k i s)/\
   (decide (ah []=0)=false->
    ((!aI [] k|| !decide (k.kind=3))=true->190=cX [] k i s)/\
      ((!aI [] k|| !decide (k.kind=3))=false->
        ((!decide (aT BinOp.and IntKind.i64 k.rights 1=0))=true->191=cX [] k i s)/\
          ((!decide (aT BinOp.and IntKind.i64 k.rights 1=0))=false->
            aL IntKind.i64 (cE s)/\
             ((!dC i (cE s))=true->4=cX [] k i s)/\
               ((!dC i (cE s))=false->
                 true=true/\
                  true=true/\
                   Bf i 64 64/\
                    true=true/\
                     ei [] k.oid
                       {kind:=(aa [] k).kind,count:=(aa [] k).count,
                        calls:=(aa [] k).calls,slots:=(aa [] k).slots,
                        bytes:=Hy (aa [] k).bytes i.toNat (Int.toNat 64) s}=
                      cX [] k i s)))):=by
 exact⟨rfl,fun h=>(wm (I5 h) (by omega)).1,fun h=>absurd h (by decide)⟩
theorem PD (k:Key) (i:Int) (s:ByteArray):
 true=true/\
  (decide (ah []=0)=true->1=cX [] k i s)/\
   (decide (ah []=0)=false->
    ((!aI [] k|| !decide (k.kind=3))=true->190=cX [] k i s)/\
      ((!aI [] k|| !decide (k.kind=3))=false->
        ((!decide (aT BinOp.and IntKind.i64 k.rights 1=0))=true->191=cX [] k i s)/\
          ((!decide (aT BinOp.and IntKind.i64 k.rights 1=0))=false->
            aL IntKind.i64 (cE s)/\
             ((!dC i (cE s))=true->4=cX [] k i s)/\
               ((!dC i (cE s))=false->true=true/\true=true/\Bf i 64 64/\true=true/\False)))):=by
 exact⟨rfl,fun h=>(wm (I5 h) (by omega)).1,fun h=>absurd h (by decide)⟩
theorem QW (L:List Sx.Obj) (k:Key) (i:Int) (s:ByteArray) (hL:aq L) (hs:aw s):
 true=true/\
  (decide (ah L=0)=true->1=cX L k i s/\L=eR L k i s)/\
   (decide (ah L=0)=false->
    ((!aI L k|| !decide (k.kind=3))=true->190=cX L k i s/\L=eR L k i s)/\
      ((!aI L k|| !decide (k.kind=3))=false->
        ((!decide (aT BinOp.and IntKind.i64 k.rights 1=0))=true->
          191=cX L k i s/\L=eR L k i s)/\
          ((!decide (aT BinOp.and IntKind.i64 k.rights 1=0))=false->
            aL IntKind.i64 (cE s)/\
             ((!dC i (cE s))=true->4=cX L k i s/\L=eR L k i s)/\
               ((!dC i (cE s))=false->
                 true=true/\
                  true=true/\
                   Bf i 64 64/\
                    true=true/\
                     ei L k.oid
                        {kind:=(aa L k).kind,count:=(aa L k).count,
                         calls:=(aa L k).calls,slots:=(aa L k).slots,
                         bytes:=Hy (aa L k).bytes i.toNat (Int.toNat 64) s}=
                       cX L k i s/\
                      bN L k.oid
                        {kind:=(aa L k).kind,count:=(aa L k).count,
                         calls:=(aa L k).calls,slots:=(aa L k).slots,
                         bytes:=Hy (aa L k).bytes i.toNat (Int.toNat 64) s}=
                       eR L k i s)))):=by
 refine⟨rfl,fun h=>wm (I5 h) (by omega),fun h=>⟨fun h2=>wm (Ti h h2) (by omega),fun h2=>⟨fun h3=>wm (V6 h h2 h3) (by omega),fun h3=>⟨?_,fun h4=>Rm (Tt h h2 h3) h4,fun h4=>?_⟩⟩⟩⟩
 ·unfold aw at hs;simp only[aL,cg,cE];omega
 ·obtain⟨a,b,c⟩:=Ul hL (pE h2).1 (pE h2).2 (Tt h h2 h3) h4;exact⟨rfl,rfl,a,rfl,b,c⟩
theorem SU (L:List Sx.Obj) (k:Key) (i:Int) (s:ByteArray) (hL:aq L) (hs:aw s):aj Tryz.prog 160 [.lp 0 0,.key k,.it .i64 i,.st s] [.store tS eS L] (AA (.it .i64 (cX L k i s)) (eR L k i s)) (fun _ _=>False):=
 bK (inl:=(fun f=>f==204||f==206||f==207)) (ann:=aO) (ab aY (ab bk (ab np an))) (aC cw az) (QW L k i s hL hs) (by kernel_rfl)
theorem zF:oU Tryz.prog 160 Up:=
 lW (m:=fun x=> [.key x.1,.it .i64 x.2.1,.st x.2.2]) Bm (fun _=>rfl) (fun _ _=>rfl) (fun x=>bK (inl:=(fun f=>f==204||f==206||f==207)) (ann:=aO) (ab aY (ab bk (ab np an))) (aC cw az) (M9 x.1 x.2.1 x.2.2) (by kernel_rfl)) (fun x=>bK (inl:=(fun f=>f==204||f==206||f==207)) (ann:=aO) (ab aY (ab bk (ab np an))) (aC cw az) (PD x.1 x.2.1 x.2.2) (by kernel_rfl)) fun L x hL _ _=>SU L x.1 x.2.1 x.2.2 hL.1 hL.2
theorem JI (k:Key):
 true=true/\
  (decide (ah []=0)=true->1=br [] k true)/\
   (decide (ah []=0)=false->
    ((!aI [] k|| !decide (k.kind=3))=true->190=br [] k true)/\
      ((!aI [] k|| !decide (k.kind=3))=false->
        ((!decide (aT BinOp.and IntKind.i64 k.rights 1=0))=true->191=br [] k true)/\
          ((!decide (aT BinOp.and IntKind.i64 k.rights 1=0))=false->
            true=true/\
             true=true/\
              Bf 0 64 64/\
               true=true/\
                ei [] k.oid
                  {kind:=(aa [] k).kind,count:=(aa [] k).count,calls:=(aa [] k).calls,
                   slots:=(aa [] k).slots,
                   bytes:=Bx (aa [] k).bytes (Int.toNat 0) (Int.toNat 64)}=
                 br [] k true))):=by
 exact⟨rfl,fun h=>(xI (I5 h) (by omega)).1,fun h=>absurd h (by decide)⟩
theorem Ju (k:Key):
 true=true/\
  (decide (ah []=0)=true->1=br [] k true)/\
   (decide (ah []=0)=false->
    ((!aI [] k|| !decide (k.kind=3))=true->190=br [] k true)/\
      ((!aI [] k|| !decide (k.kind=3))=false->
        ((!decide (aT BinOp.and IntKind.i64 k.rights 1=0))=true->191=br [] k true)/\
          ((!decide (aT BinOp.and IntKind.i64 k.rights 1=0))=false->
            true=true/\true=true/\Bf 0 64 64/\true=true/\False))):=by
 exact⟨rfl,fun h=>(xI (I5 h) (by omega)).1,fun h=>absurd h (by decide)⟩
theorem Pb (L:List Sx.Obj) (k:Key) (hL:aq L):
 true=true/\
  (decide (ah L=0)=true->1=br L k true/\L=fg L k)/\
   (decide (ah L=0)=false->
    ((!aI L k|| !decide (k.kind=3))=true->190=br L k true/\L=fg L k)/\
      ((!aI L k|| !decide (k.kind=3))=false->
        ((!decide (aT BinOp.and IntKind.i64 k.rights 1=0))=true->191=br L k true/\L=fg L k)/\
          ((!decide (aT BinOp.and IntKind.i64 k.rights 1=0))=false->
            true=true/\
             true=true/\
              Bf 0 64 64/\
               true=true/\
                ei L k.oid
                   {kind:=(aa L k).kind,count:=(aa L k).count,calls:=(aa L k).calls,
                    slots:=(aa L k).slots,
                    bytes:=Bx (aa L k).bytes (Int.toNat 0) (Int.toNat 64)}=
                  br L k true/\
                 bN L k.oid
                   {kind:=(aa L k).kind,count:=(aa L k).count,calls:=(aa L k).calls,
                    slots:=(aa L k).slots,
                    bytes:=Bx (aa L k).bytes (Int.toNat 0) (Int.toNat 64)}=
                  fg L k))):=by
 refine⟨rfl,fun h=>xI (I5 h) (by omega),fun h=>⟨fun h2=>xI (Ti h h2) (by omega),fun h2=>⟨fun h3=>xI (V6 h h2 h3) (by omega),fun h3=>?_⟩⟩⟩
 obtain⟨a,b,c⟩:=Uc hL (pE h2).1 (pE h2).2 (Tt h h2 h3);exact⟨rfl,rfl,a,rfl,b,c⟩
theorem NK (L:List Sx.Obj) (k:Key) (hL:aq L):aj Tryz.prog 162 [.lp 0 0,.key k] [.store tS eS L] (AA (.it .i64 (br L k true)) (fg L k)) (fun _ _=>False):=
 bK (inl:=(fun f=>f==204||f==206||f==208)) (ann:=aO) (ab aY (ab bk an)) (aC cw az) (Pb L k hL) (by kernel_rfl)
theorem PT:oU Tryz.prog 162 Rp:=
 lW (m:=fun x=> [.key x]) HF (fun _=>rfl) (fun _ _=>rfl) (fun x=>bK (inl:=(fun f=>f==204||f==206||f==208)) (ann:=aO) (ab aY (ab bk an)) (aC cw az) (JI x) (by kernel_rfl)) (fun x=>bK (inl:=(fun f=>f==204||f==206||f==208)) (ann:=aO) (ab aY (ab bk an)) (aC cw az) (Ju x) (by kernel_rfl)) fun L x hL _ _=>NK L x hL
theorem OV (t f:Key):
 true=true/\
  (decide (ah []=0)=true->1=cY [] t f)/\
   (decide (ah []=0)=false->
    ((!aI [] t|| !decide (t.kind=3))=true->190=cY [] t f)/\
      ((!aI [] t|| !decide (t.kind=3))=false->
        ((!decide (aT BinOp.and IntKind.i64 t.rights 1=0))=true->191=cY [] t f)/\
          ((!decide (aT BinOp.and IntKind.i64 t.rights 1=0))=false->
            true=true/\
             (decide (ah []=0)=true->1=cY [] t f)/\
              (decide (ah []=0)=false->
               ((!aI [] f|| !decide (f.kind=3))=true->190=cY [] t f)/\
                 ((!aI [] f|| !decide (f.kind=3))=false->
                   true=true/\
                    true=true/\
                     true=true/\
                      ei [] t.oid
                        {kind:=(aa [] t).kind,count:=(aa [] t).count,
                         calls:=(aa [] t).calls,slots:=(aa [] t).slots,
                         bytes:=(aa [] f).bytes}=
                       cY [] t f))))):=by
 exact⟨rfl,fun h=>(wy (I5 h) (by omega)).1,fun h=>absurd h (by decide)⟩
theorem Pt (t f:Key):
 true=true/\
  (decide (ah []=0)=true->1=cY [] t f)/\
   (decide (ah []=0)=false->
    ((!aI [] t|| !decide (t.kind=3))=true->190=cY [] t f)/\
      ((!aI [] t|| !decide (t.kind=3))=false->
        ((!decide (aT BinOp.and IntKind.i64 t.rights 1=0))=true->191=cY [] t f)/\
          ((!decide (aT BinOp.and IntKind.i64 t.rights 1=0))=false->
            true=true/\
             (decide (ah []=0)=true->1=cY [] t f)/\
              (decide (ah []=0)=false->
               ((!aI [] f|| !decide (f.kind=3))=true->190=cY [] t f)/\
                 ((!aI [] f|| !decide (f.kind=3))=false->
                   true=true/\true=true/\true=true/\False))))):=by
 exact⟨rfl,fun h=>(wy (I5 h) (by omega)).1,fun h=>absurd h (by decide)⟩
theorem SL (L:List Sx.Obj) (t f:Key) (hL:aq L):
 true=true/\
  (decide (ah L=0)=true->1=cY L t f/\L=fz L t f)/\
   (decide (ah L=0)=false->
    ((!aI L t|| !decide (t.kind=3))=true->190=cY L t f/\L=fz L t f)/\
      ((!aI L t|| !decide (t.kind=3))=false->
        ((!decide (aT BinOp.and IntKind.i64 t.rights 1=0))=true->191=cY L t f/\L=fz L t f)/\
          ((!decide (aT BinOp.and IntKind.i64 t.rights 1=0))=false->
            true=true/\
             (decide (ah L=0)=true->1=cY L t f/\L=fz L t f)/\
              (decide (ah L=0)=false->
               ((!aI L f|| !decide (f.kind=3))=true->190=cY L t f/\L=fz L t f)/\
                 ((!aI L f|| !decide (f.kind=3))=false->
                   true=true/\
                    true=true/\
                     true=true/\
                      ei L t.oid
                         {kind:=(aa L t).kind,count:=(aa L t).count,
                          calls:=(aa L t).calls,slots:=(aa L t).slots,
                          bytes:=(aa L f).bytes}=
                        cY L t f/\
                       bN L t.oid
                         {kind:=(aa L t).kind,count:=(aa L t).count,
                          calls:=(aa L t).calls,slots:=(aa L t).slots,
                          bytes:=(aa L f).bytes}=
                        fz L t f))))):=by
 refine⟨rfl,fun h=>wy (I5 h) (by omega),fun h=>⟨fun h2=>wy (Ti h h2) (by omega),fun h2=>⟨fun h3=>wy (V6 h h2 h3) (by omega),fun h3=>⟨rfl,fun h'=>?_,fun _=>⟨fun h5=>Pz (Tt h h2 h3) (Ti h h5) (by omega),fun h5=>?_⟩⟩⟩⟩⟩
 ·rw[h]at h';simp at h'
 ·obtain⟨b,c⟩:=TB hL (pE h2).1 (pE h2).2 (Tt h h2 h3) (pE h5).1 (TZ h h5);exact⟨rfl,rfl,rfl,b,c⟩
theorem Rx (L:List Sx.Obj) (t f:Key) (hL:aq L):aj Tryz.prog 164 [.lp 0 0,.key t,.key f] [.store tS eS L] (AA (.it .i64 (cY L t f)) (fz L t f)) (fun _ _=>False):=
 bK (inl:=(fun f=>f==204||f==206||f==209)) (ann:=aO) (ab aY (ab bk an)) (aC cw az) (SL L t f hL) (by kernel_rfl)
theorem Sg:oU Tryz.prog 164 TE:=
 lW (m:=fun x=> [.key x.1,.key x.2]) E6 (fun _=>rfl) (fun _ _=>rfl) (fun x=>bK (inl:=(fun f=>f==204||f==206||f==209)) (ann:=aO) (ab aY (ab bk an)) (aC cw az) (OV x.1 x.2) (by kernel_rfl)) (fun x=>bK (inl:=(fun f=>f==204||f==206||f==209)) (ann:=aO) (ab aY (ab bk an)) (aC cw az) (Pt x.1 x.2) (by kernel_rfl)) fun L x hL _ _=>Rx L x.1 x.2 hL
end Go.Proofs.YtlblcfaclmpekaaGreat
