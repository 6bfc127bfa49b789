import Derived.Test.YtlblcfaclmpekaaGreatCN
import Derived.Test.YtlblcfaclmpekaaGreatKS
import Derived.Test.YtlblcfaclmpekaaGreatSpP
set_option linter.unusedSimpArgs false
set_option linter.unusedVariables false
namespace Go.Proofs.YtlblcfaclmpekaaGreat
open Go.Sx
set_option maxRecDepth 100000
theorem F4 (i n:Int):
 ((decide (0<=i)&&decide (0<=n)&&decide (i<=64))=true->aM IntKind.i64 (64-i))/\
   (decide (0<=i)&&decide (0<=n)&&decide (i<=64)&&decide (n<=64-i))=dz i n:=by
 unfold dz;refine⟨fun h=>?_,?_⟩
 ·simp only[VG,VH]at h;simp only[aM,cj];omega
 ·rfl
theorem nm:dC Tryz.prog 205 KS:=
 wh (gR .i64) (gR .i64) (fun _ _=>rfl) fun i n _ _=>bu (inl:=ca) (ann:=aR) au (F4 i n) (by kernel_rfl)
theorem FH (k:Key) (i n:Int):
 true=true/\
  (decide (ah []=0)=true->(⟨#[]⟩:ByteArray)=dV [] k i n/\1=bZ [] k i n)/\
   (decide (ah []=0)=false->
    ((!aQ [] k|| !decide (k.kind=3))=true->
      (⟨#[]⟩:ByteArray)=dV [] k i n/\190=bZ [] k i n)/\
      ((!aQ [] k|| !decide (k.kind=3))=false->
        ((!dz i n)=true->(⟨#[]⟩:ByteArray)=dV [] k i n/\4=bZ [] k i n)/\
          ((!dz i n)=false->
            aM IntKind.i64 (i+n)/\
             Bg i (i+n) 64/\
              xw (aa [] k).bytes i.toNat (i+n).toNat=dV [] k i n/\0=bZ [] k i n))):=by
 refine⟨rfl,fun h=>rX (IJ h) (by omega),fun h=>⟨fun h2=>rX (R0 h h2) (by omega),fun h2=>⟨fun h3=>Ci (Tt h h2) h3,fun h3=>?_⟩⟩⟩
 rw[(eH (pN h2).1).2.2.2.1];exact DX (Tt h h2) h3
theorem G2 (L:List Sx.Obj) (k:Key) (i n:Int):
 true=true/\
  (decide (ah L=0)=true->(⟨#[]⟩:ByteArray)=dV L k i n/\1=bZ L k i n)/\
   (decide (ah L=0)=false->
    ((!aQ L k|| !decide (k.kind=3))=true->
      (⟨#[]⟩:ByteArray)=dV L k i n/\190=bZ L k i n)/\
      ((!aQ L k|| !decide (k.kind=3))=false->
        ((!dz i n)=true->(⟨#[]⟩:ByteArray)=dV L k i n/\4=bZ L k i n)/\
          ((!dz i n)=false->
            aM IntKind.i64 (i+n)/\
             Bg i (i+n) 64/\
              xw (aa L k).bytes i.toNat (i+n).toNat=dV L k i n/\0=bZ L k i n))):=by
 refine⟨rfl,fun h=>rX (IJ h) (by omega),fun h=>⟨fun h2=>rX (R0 h h2) (by omega),fun h2=>⟨fun h3=>Ci (Tt h h2) h3,fun h3=>?_⟩⟩⟩
 rw[(eH (pN h2).1).2.2.2.1];exact DX (Tt h h2) h3
theorem nF:dC Tryz.prog 203 NU:=
 jY (aN qK (aN mG (aN fN (aN fN dX)))) (fun _=>rfl) fun a hq hok=>by
  obtain⟨S,k,i,n,_⟩:=a;cases S with
  |none=>exact bP (inl:=(fun f=>f==204)) (ann:=aR) (ab ba (ab bn (ab nm au))) aA (FH k i n) (by kernel_rfl)
  |some L=>exact bP (inl:=(fun f=>f==204)) (ann:=aR) (ab ba (ab bn (ab nm au))) aA (G2 L k i n) (by kernel_rfl)
end Go.Proofs.YtlblcfaclmpekaaGreat
namespace Go.Proofs.YtlblcfaclmpekaaGreat
open Go.Sx
set_option maxRecDepth 100000
theorem Mk (k:Key) (i:Int) (s:ByteArray):
 true=true/\
  (decide (ah []=0)=true->1=cY [] k i s)/\
   (decide (ah []=0)=false->
    ((!aQ [] k|| !decide (k.kind=3))=true->190=cY [] k i s)/\
      ((!aQ [] k|| !decide (k.kind=3))=false->
        ((!decide (aV BinOp.and IntKind.i64 k.rights 1=0))=true->191=cY [] k i s)/\
          ((!decide (aV BinOp.and IntKind.i64 k.rights 1=0))=false->
            aM IntKind.i64 (cC s)/\
             ((!dz i (cC s))=true->4=cY [] k i s)/\
               ((!dz i (cC s))=false->
                 true=true/\
                  true=true/\
                   Bg i 64 64/\
                    true=true/\
                     eU [] k.oid
                       {kind:=(aa [] k).kind,count:=(aa [] k).count,
                        calls:=(aa [] k).calls,slots:=(aa [] k).slots,
                        bytes:=GM (aa [] k).bytes i.toNat (Int.toNat 64) s}=
                      cY [] k i s)))):=by
 exact⟨rfl,fun h=>(wK (IJ h) (by omega)).1,fun h=>absurd h (by decide)⟩
theorem NH (k:Key) (i:Int) (s:ByteArray):
 true=true/\
  (decide (ah []=0)=true->1=cY [] k i s)/\
   (decide (ah []=0)=false->
    ((!aQ [] k|| !decide (k.kind=3))=true->190=cY [] k i s)/\
      ((!aQ [] k|| !decide (k.kind=3))=false->
        ((!decide (aV BinOp.and IntKind.i64 k.rights 1=0))=true->191=cY [] k i s)/\
          ((!decide (aV BinOp.and IntKind.i64 k.rights 1=0))=false->
            aM IntKind.i64 (cC s)/\
             ((!dz i (cC s))=true->4=cY [] k i s)/\
               ((!dz i (cC s))=false->true=true/\true=true/\Bg i 64 64/\true=true/\False)))):=by
 exact⟨rfl,fun h=>(wK (IJ h) (by omega)).1,fun h=>absurd h (by decide)⟩
theorem Ql (L:List Sx.Obj) (k:Key) (i:Int) (s:ByteArray) (hL:ar L) (hs:aw s):
 true=true/\
  (decide (ah L=0)=true->1=cY L k i s/\L=ff L k i s)/\
   (decide (ah L=0)=false->
    ((!aQ L k|| !decide (k.kind=3))=true->190=cY L k i s/\L=ff L k i s)/\
      ((!aQ L k|| !decide (k.kind=3))=false->
        ((!decide (aV BinOp.and IntKind.i64 k.rights 1=0))=true->
          191=cY L k i s/\L=ff L k i s)/\
          ((!decide (aV BinOp.and IntKind.i64 k.rights 1=0))=false->
            aM IntKind.i64 (cC s)/\
             ((!dz i (cC s))=true->4=cY L k i s/\L=ff L k i s)/\
               ((!dz i (cC s))=false->
                 true=true/\
                  true=true/\
                   Bg i 64 64/\
                    true=true/\
                     eU L k.oid
                        {kind:=(aa L k).kind,count:=(aa L k).count,
                         calls:=(aa L k).calls,slots:=(aa L k).slots,
                         bytes:=GM (aa L k).bytes i.toNat (Int.toNat 64) s}=
                       cY L k i s/\
                      bO L k.oid
                        {kind:=(aa L k).kind,count:=(aa L k).count,
                         calls:=(aa L k).calls,slots:=(aa L k).slots,
                         bytes:=GM (aa L k).bytes i.toNat (Int.toNat 64) s}=
                       ff L k i s)))):=by
 refine⟨rfl,fun h=>wK (IJ h) (by omega),fun h=>⟨fun h2=>wK (R0 h h2) (by omega),fun h2=>⟨fun h3=>wK (UI h h2 h3) (by omega),fun h3=>⟨?_,fun h4=>Rg (Sy h h2 h3) h4,fun h4=>?_⟩⟩⟩⟩
 ·unfold aw at hs;simp only[aM,cj,cC];omega
 ·obtain⟨a,b,c⟩:=Sw hL (pN h2).1 (pN h2).2 (Sy h h2 h3) h4;exact⟨rfl,rfl,a,rfl,b,c⟩
theorem QL (L:List Sx.Obj) (k:Key) (i:Int) (s:ByteArray) (hL:ar L) (hs:aw s):aj Tryz.prog 160 [.lp 0 0,.key k,.it .i64 i,.st s] [.store tS eS L] (zt (.it .i64 (cY L k i s)) (ff L k i s)) (fun _ _=>False):=
 bP (inl:=(fun f=>f==204||f==206||f==207)) (ann:=aR) (ab ba (ab bn (ab nm au))) (aE cw aA) (Ql L k i s hL hs) (by kernel_rfl)
theorem zd:oP Tryz.prog 160 Su:=
 mf (m:=fun x=> [.key x.1,.it .i64 x.2.1,.st x.2.2]) BF (fun _=>rfl) (fun _ _=>rfl) (fun x=>bP (inl:=(fun f=>f==204||f==206||f==207)) (ann:=aR) (ab ba (ab bn (ab nm au))) (aE cw aA) (Mk x.1 x.2.1 x.2.2) (by kernel_rfl)) (fun x=>bP (inl:=(fun f=>f==204||f==206||f==207)) (ann:=aR) (ab ba (ab bn (ab nm au))) (aE cw aA) (NH x.1 x.2.1 x.2.2) (by kernel_rfl)) fun L x hL _ _=>QL L x.1 x.2.1 x.2.2 hL.1 hL.2
theorem He (k:Key):
 true=true/\
  (decide (ah []=0)=true->1=bz [] k true)/\
   (decide (ah []=0)=false->
    ((!aQ [] k|| !decide (k.kind=3))=true->190=bz [] k true)/\
      ((!aQ [] k|| !decide (k.kind=3))=false->
        ((!decide (aV BinOp.and IntKind.i64 k.rights 1=0))=true->191=bz [] k true)/\
          ((!decide (aV BinOp.and IntKind.i64 k.rights 1=0))=false->
            true=true/\
             true=true/\
              Bg 0 64 64/\
               true=true/\
                eU [] k.oid
                  {kind:=(aa [] k).kind,count:=(aa [] k).count,calls:=(aa [] k).calls,
                   slots:=(aa [] k).slots,
                   bytes:=BO (aa [] k).bytes (Int.toNat 0) (Int.toNat 64)}=
                 bz [] k true))):=by
 exact⟨rfl,fun h=>(vZ (IJ h) (by omega)).1,fun h=>absurd h (by decide)⟩
theorem Ky (k:Key):
 true=true/\
  (decide (ah []=0)=true->1=bz [] k true)/\
   (decide (ah []=0)=false->
    ((!aQ [] k|| !decide (k.kind=3))=true->190=bz [] k true)/\
      ((!aQ [] k|| !decide (k.kind=3))=false->
        ((!decide (aV BinOp.and IntKind.i64 k.rights 1=0))=true->191=bz [] k true)/\
          ((!decide (aV BinOp.and IntKind.i64 k.rights 1=0))=false->
            true=true/\true=true/\Bg 0 64 64/\true=true/\False))):=by
 exact⟨rfl,fun h=>(vZ (IJ h) (by omega)).1,fun h=>absurd h (by decide)⟩
theorem NV (L:List Sx.Obj) (k:Key) (hL:ar L):
 true=true/\
  (decide (ah L=0)=true->1=bz L k true/\L=fP L k)/\
   (decide (ah L=0)=false->
    ((!aQ L k|| !decide (k.kind=3))=true->190=bz L k true/\L=fP L k)/\
      ((!aQ L k|| !decide (k.kind=3))=false->
        ((!decide (aV BinOp.and IntKind.i64 k.rights 1=0))=true->191=bz L k true/\L=fP L k)/\
          ((!decide (aV BinOp.and IntKind.i64 k.rights 1=0))=false->
            true=true/\
             true=true/\
              Bg 0 64 64/\
               true=true/\
                eU L k.oid
                   {kind:=(aa L k).kind,count:=(aa L k).count,calls:=(aa L k).calls,
                    slots:=(aa L k).slots,
                    bytes:=BO (aa L k).bytes (Int.toNat 0) (Int.toNat 64)}=
                  bz L k true/\
                 bO L k.oid
                   {kind:=(aa L k).kind,count:=(aa L k).count,calls:=(aa L k).calls,
                    slots:=(aa L k).slots,
                    bytes:=BO (aa L k).bytes (Int.toNat 0) (Int.toNat 64)}=
                  fP L k))):=by
 refine⟨rfl,fun h=>vZ (IJ h) (by omega),fun h=>⟨fun h2=>vZ (R0 h h2) (by omega),fun h2=>⟨fun h3=>vZ (UI h h2 h3) (by omega),fun h3=>?_⟩⟩⟩
 obtain⟨a,b,c⟩:=SS hL (pN h2).1 (pN h2).2 (Sy h h2 h3);exact⟨rfl,rfl,a,rfl,b,c⟩
theorem MN (L:List Sx.Obj) (k:Key) (hL:ar L):aj Tryz.prog 162 [.lp 0 0,.key k] [.store tS eS L] (zt (.it .i64 (bz L k true)) (fP L k)) (fun _ _=>False):=
 bP (inl:=(fun f=>f==204||f==206||f==208)) (ann:=aR) (ab ba (ab bn au)) (aE cw aA) (NV L k hL) (by kernel_rfl)
theorem Mm:oP Tryz.prog 162 Qc:=
 mf (m:=fun x=> [.key x]) I8 (fun _=>rfl) (fun _ _=>rfl) (fun x=>bP (inl:=(fun f=>f==204||f==206||f==208)) (ann:=aR) (ab ba (ab bn au)) (aE cw aA) (He x) (by kernel_rfl)) (fun x=>bP (inl:=(fun f=>f==204||f==206||f==208)) (ann:=aR) (ab ba (ab bn au)) (aE cw aA) (Ky x) (by kernel_rfl)) fun L x hL _ _=>MN L x hL
theorem LK (t f:Key):
 true=true/\
  (decide (ah []=0)=true->1=cW [] t f)/\
   (decide (ah []=0)=false->
    ((!aQ [] t|| !decide (t.kind=3))=true->190=cW [] t f)/\
      ((!aQ [] t|| !decide (t.kind=3))=false->
        ((!decide (aV BinOp.and IntKind.i64 t.rights 1=0))=true->191=cW [] t f)/\
          ((!decide (aV BinOp.and IntKind.i64 t.rights 1=0))=false->
            true=true/\
             (decide (ah []=0)=true->1=cW [] t f)/\
              (decide (ah []=0)=false->
               ((!aQ [] f|| !decide (f.kind=3))=true->190=cW [] t f)/\
                 ((!aQ [] f|| !decide (f.kind=3))=false->
                   true=true/\
                    true=true/\
                     true=true/\
                      eU [] t.oid
                        {kind:=(aa [] t).kind,count:=(aa [] t).count,
                         calls:=(aa [] t).calls,slots:=(aa [] t).slots,
                         bytes:=(aa [] f).bytes}=
                       cW [] t f))))):=by
 exact⟨rfl,fun h=>(wE (IJ h) (by omega)).1,fun h=>absurd h (by decide)⟩
theorem MK (t f:Key):
 true=true/\
  (decide (ah []=0)=true->1=cW [] t f)/\
   (decide (ah []=0)=false->
    ((!aQ [] t|| !decide (t.kind=3))=true->190=cW [] t f)/\
      ((!aQ [] t|| !decide (t.kind=3))=false->
        ((!decide (aV BinOp.and IntKind.i64 t.rights 1=0))=true->191=cW [] t f)/\
          ((!decide (aV BinOp.and IntKind.i64 t.rights 1=0))=false->
            true=true/\
             (decide (ah []=0)=true->1=cW [] t f)/\
              (decide (ah []=0)=false->
               ((!aQ [] f|| !decide (f.kind=3))=true->190=cW [] t f)/\
                 ((!aQ [] f|| !decide (f.kind=3))=false->
                   true=true/\true=true/\true=true/\False))))):=by
 exact⟨rfl,fun h=>(wE (IJ h) (by omega)).1,fun h=>absurd h (by decide)⟩
theorem Rs (L:List Sx.Obj) (t f:Key) (hL:ar L):
 true=true/\
  (decide (ah L=0)=true->1=cW L t f/\L=fW L t f)/\
   (decide (ah L=0)=false->
    ((!aQ L t|| !decide (t.kind=3))=true->190=cW L t f/\L=fW L t f)/\
      ((!aQ L t|| !decide (t.kind=3))=false->
        ((!decide (aV BinOp.and IntKind.i64 t.rights 1=0))=true->191=cW L t f/\L=fW L t f)/\
          ((!decide (aV BinOp.and IntKind.i64 t.rights 1=0))=false->
            true=true/\
             (decide (ah L=0)=true->1=cW L t f/\L=fW L t f)/\
              (decide (ah L=0)=false->
               ((!aQ L f|| !decide (f.kind=3))=true->190=cW L t f/\L=fW L t f)/\
                 ((!aQ L f|| !decide (f.kind=3))=false->
                   true=true/\
                    true=true/\
                     true=true/\
                      eU L t.oid
                         {kind:=(aa L t).kind,count:=(aa L t).count,
                          calls:=(aa L t).calls,slots:=(aa L t).slots,
                          bytes:=(aa L f).bytes}=
                        cW L t f/\
                       bO L t.oid
                         {kind:=(aa L t).kind,count:=(aa L t).count,
                          calls:=(aa L t).calls,slots:=(aa L t).slots,
                          bytes:=(aa L f).bytes}=
                        fW L t f))))):=by
 refine⟨rfl,fun h=>wE (IJ h) (by omega),fun h=>⟨fun h2=>wE (R0 h h2) (by omega),fun h2=>⟨fun h3=>wE (UI h h2 h3) (by omega),fun h3=>⟨rfl,fun h'=>?_,fun _=>⟨fun h5=>Nk (Sy h h2 h3) (R0 h h5) (by omega),fun h5=>?_⟩⟩⟩⟩⟩
 ·rw[h]at h';simp at h'
 ·obtain⟨b,c⟩:=Tn hL (pN h2).1 (pN h2).2 (Sy h h2 h3) (pN h5).1 (Tt h h5);exact⟨rfl,rfl,rfl,b,c⟩
theorem Qf (L:List Sx.Obj) (t f:Key) (hL:ar L):aj Tryz.prog 164 [.lp 0 0,.key t,.key f] [.store tS eS L] (zt (.it .i64 (cW L t f)) (fW L t f)) (fun _ _=>False):=
 bP (inl:=(fun f=>f==204||f==206||f==209)) (ann:=aR) (ab ba (ab bn au)) (aE cw aA) (Rs L t f hL) (by kernel_rfl)
theorem Rd:oP Tryz.prog 164 Sz:=
 mf (m:=fun x=> [.key x.1,.key x.2]) D7 (fun _=>rfl) (fun _ _=>rfl) (fun x=>bP (inl:=(fun f=>f==204||f==206||f==209)) (ann:=aR) (ab ba (ab bn au)) (aE cw aA) (LK x.1 x.2) (by kernel_rfl)) (fun x=>bP (inl:=(fun f=>f==204||f==206||f==209)) (ann:=aR) (ab ba (ab bn au)) (aE cw aA) (MK x.1 x.2) (by kernel_rfl)) fun L x hL _ _=>Qf L x.1 x.2 hL
end Go.Proofs.YtlblcfaclmpekaaGreat
