import Derived.Test.YtlblcfaclmpekaaGreatCN
import Derived.Test.YtlblcfaclmpekaaGreatKS
import Derived.Test.YtlblcfaclmpekaaGreatSpP
set_option linter.unusedSimpArgs false
set_option linter.unusedVariables false
namespace Go.Proofs.YtlblcfaclmpekaaGreat
open Go.Sx
set_option maxRecDepth 100000
theorem ES (i n:Int):
 ((decide (0<=i)&&decide (0<=n)&&decide (i<=64))=true->aL IntKind.i64 (64-i))/\
   (decide (0<=i)&&decide (0<=n)&&decide (i<=64)&&decide (n<=64-i))=de i n:=by
 unfold de;refine⟨fun h=>?_,?_⟩
 ·simp only[US,UT]at h;simp only[aL,b7];omega
 ·rfl
theorem mX:dA Tryz.prog 205 H9:=
 vl (gF .i64) (gF .i64) (fun _ _=>rfl) fun i n _ _=>bx (inl:=cw) (ann:=aQ) aq (ES i n) (by kernel_rfl)
theorem Fu (k:Key) (i n:Int):
 true=true/\
  (decide (ah []=0)=true->(⟨#[]⟩:ByteArray)=dN [] k i n/\1=bR [] k i n)/\
   (decide (ah []=0)=false->
    ((!aO [] k|| !decide (k.kind=3))=true->
      (⟨#[]⟩:ByteArray)=dN [] k i n/\190=bR [] k i n)/\
      ((!aO [] k|| !decide (k.kind=3))=false->
        ((!de i n)=true->(⟨#[]⟩:ByteArray)=dN [] k i n/\4=bR [] k i n)/\
          ((!de i n)=false->
            aL IntKind.i64 (i+n)/\
             Ax i (i+n) 64/\
              xd (aa [] k).bytes i.toNat (i+n).toNat=dN [] k i n/\0=bR [] k i n))):=by
 refine⟨rfl,fun h=>sJ (I8 h) (by omega),fun h=>⟨fun h2=>sJ (Ra h h2) (by omega),fun h2=>⟨fun h3=>Be (Ro h h2) h3,fun h3=>?_⟩⟩⟩
 rw[(er (oV h2).1).2.2.2.1];exact DR (Ro h h2) h3
theorem Kk (L:List Sx.Obj) (k:Key) (i n:Int):
 true=true/\
  (decide (ah L=0)=true->(⟨#[]⟩:ByteArray)=dN L k i n/\1=bR L k i n)/\
   (decide (ah L=0)=false->
    ((!aO L k|| !decide (k.kind=3))=true->
      (⟨#[]⟩:ByteArray)=dN L k i n/\190=bR L k i n)/\
      ((!aO L k|| !decide (k.kind=3))=false->
        ((!de i n)=true->(⟨#[]⟩:ByteArray)=dN L k i n/\4=bR L k i n)/\
          ((!de i n)=false->
            aL IntKind.i64 (i+n)/\
             Ax i (i+n) 64/\
              xd (aa L k).bytes i.toNat (i+n).toNat=dN L k i n/\0=bR L k i n))):=by
 refine⟨rfl,fun h=>sJ (I8 h) (by omega),fun h=>⟨fun h2=>sJ (Ra h h2) (by omega),fun h2=>⟨fun h3=>Be (Ro h h2) h3,fun h3=>?_⟩⟩⟩
 rw[(er (oV h2).1).2.2.2.1];exact DR (Ro h h2) h3
theorem m7:dA Tryz.prog 203 M7:=
 jB (aK qs (aK lZ (aK fE (aK fE dP)))) (fun _=>rfl) fun a hq hok=>by
  obtain⟨S,k,i,n,_⟩:=a;cases S with
  |none=>exact bL (inl:=(fun f=>f==204)) (ann:=aQ) (ab aW (ab bj (ab mX aq))) ay (Fu k i n) (by kernel_rfl)
  |some L=>exact bL (inl:=(fun f=>f==204)) (ann:=aQ) (ab aW (ab bj (ab mX aq))) ay (Kk L k i n) (by kernel_rfl)
end Go.Proofs.YtlblcfaclmpekaaGreat
namespace Go.Proofs.YtlblcfaclmpekaaGreat
open Go.Sx
set_option maxRecDepth 100000
theorem K5 (k:Key) (i:Int) (s:ByteArray):
 true=true/\
  (decide (ah []=0)=true->1=cM [] k i s)/\
   (decide (ah []=0)=false->
    ((!aO [] k|| !decide (k.kind=3))=true->190=cM [] k i s)/\
      ((!aO [] k|| !decide (k.kind=3))=false->
        ((!decide (aS BinOp.and IntKind.i64 k.rights 1=0))=true->191=cM [] k i s)/\
          ((!decide (aS BinOp.and IntKind.i64 k.rights 1=0))=false->
            aL IntKind.i64 (ca s)/\
             ((!de i (ca s))=true->4=cM [] k i s)/\
               ((!de i (ca s))=false->
                 true=true/\
                  true=true/\
                   Ax i 64 64/\
                    true=true/\
                     eH [] k.oid
                       {kind:=(aa [] k).kind,count:=(aa [] k).count,
                        calls:=(aa [] k).calls,slots:=(aa [] k).slots,
                        bytes:=Ge (aa [] k).bytes i.toNat (Int.toNat 64) s}=
                      cM [] k i s)))):=by
 exact⟨rfl,fun h=>(wE (I8 h) (by omega)).1,fun h=>absurd h (by decide)⟩
theorem Ld (k:Key) (i:Int) (s:ByteArray):
 true=true/\
  (decide (ah []=0)=true->1=cM [] k i s)/\
   (decide (ah []=0)=false->
    ((!aO [] k|| !decide (k.kind=3))=true->190=cM [] k i s)/\
      ((!aO [] k|| !decide (k.kind=3))=false->
        ((!decide (aS BinOp.and IntKind.i64 k.rights 1=0))=true->191=cM [] k i s)/\
          ((!decide (aS BinOp.and IntKind.i64 k.rights 1=0))=false->
            aL IntKind.i64 (ca s)/\
             ((!de i (ca s))=true->4=cM [] k i s)/\
               ((!de i (ca s))=false->true=true/\true=true/\Ax i 64 64/\true=true/\False)))):=by
 exact⟨rfl,fun h=>(wE (I8 h) (by omega)).1,fun h=>absurd h (by decide)⟩
theorem O8 (L:List Sx.Obj) (k:Key) (i:Int) (s:ByteArray) (hL:an L) (hs:au s):
 true=true/\
  (decide (ah L=0)=true->1=cM L k i s/\L=eW L k i s)/\
   (decide (ah L=0)=false->
    ((!aO L k|| !decide (k.kind=3))=true->190=cM L k i s/\L=eW L k i s)/\
      ((!aO L k|| !decide (k.kind=3))=false->
        ((!decide (aS BinOp.and IntKind.i64 k.rights 1=0))=true->
          191=cM L k i s/\L=eW L k i s)/\
          ((!decide (aS BinOp.and IntKind.i64 k.rights 1=0))=false->
            aL IntKind.i64 (ca s)/\
             ((!de i (ca s))=true->4=cM L k i s/\L=eW L k i s)/\
               ((!de i (ca s))=false->
                 true=true/\
                  true=true/\
                   Ax i 64 64/\
                    true=true/\
                     eH L k.oid
                        {kind:=(aa L k).kind,count:=(aa L k).count,
                         calls:=(aa L k).calls,slots:=(aa L k).slots,
                         bytes:=Ge (aa L k).bytes i.toNat (Int.toNat 64) s}=
                       cM L k i s/\
                      bO L k.oid
                        {kind:=(aa L k).kind,count:=(aa L k).count,
                         calls:=(aa L k).calls,slots:=(aa L k).slots,
                         bytes:=Ge (aa L k).bytes i.toNat (Int.toNat 64) s}=
                       eW L k i s)))):=by
 refine⟨rfl,fun h=>wE (I8 h) (by omega),fun h=>⟨fun h2=>wE (Ra h h2) (by omega),fun h2=>⟨fun h3=>wE (TE h h2 h3) (by omega),fun h3=>⟨?_,fun h4=>Pr (RD h h2 h3) h4,fun h4=>?_⟩⟩⟩⟩
 ·unfold au at hs;simp only[aL,b7,ca];omega
 ·obtain⟨a,b,c⟩:=Su hL (oV h2).1 (oV h2).2 (RD h h2 h3) h4;exact⟨rfl,rfl,a,rfl,b,c⟩
theorem OZ (L:List Sx.Obj) (k:Key) (i:Int) (s:ByteArray) (hL:an L) (hs:au s):aj Tryz.prog 160 [.lp 0 0,.key k,.it .i64 i,.st s] [.store tS eS L] (yZ (.it .i64 (cM L k i s)) (eW L k i s)) (fun _ _=>False):=
 bL (inl:=(fun f=>f==204||f==206||f==207)) (ann:=aQ) (ab aW (ab bj (ab mX aq))) (aB bY ay) (O8 L k i s hL hs) (by kernel_rfl)
theorem zk:p5 Tryz.prog 160 Sp:=
 lg (m:=fun x=> [.key x.1,.it .i64 x.2.1,.st x.2.2]) An (fun _=>rfl) (fun _ _=>rfl) (fun x=>bL (inl:=(fun f=>f==204||f==206||f==207)) (ann:=aQ) (ab aW (ab bj (ab mX aq))) (aB bY ay) (K5 x.1 x.2.1 x.2.2) (by kernel_rfl)) (fun x=>bL (inl:=(fun f=>f==204||f==206||f==207)) (ann:=aQ) (ab aW (ab bj (ab mX aq))) (aB bY ay) (Ld x.1 x.2.1 x.2.2) (by kernel_rfl)) fun L x hL _ _=>OZ L x.1 x.2.1 x.2.2 hL.1 hL.2
theorem HR (k:Key):
 true=true/\
  (decide (ah []=0)=true->1=bn [] k true)/\
   (decide (ah []=0)=false->
    ((!aO [] k|| !decide (k.kind=3))=true->190=bn [] k true)/\
      ((!aO [] k|| !decide (k.kind=3))=false->
        ((!decide (aS BinOp.and IntKind.i64 k.rights 1=0))=true->191=bn [] k true)/\
          ((!decide (aS BinOp.and IntKind.i64 k.rights 1=0))=false->
            true=true/\
             true=true/\
              Ax 0 64 64/\
               true=true/\
                eH [] k.oid
                  {kind:=(aa [] k).kind,count:=(aa [] k).count,calls:=(aa [] k).calls,
                   slots:=(aa [] k).slots,
                   bytes:=AX (aa [] k).bytes (Int.toNat 0) (Int.toNat 64)}=
                 bn [] k true))):=by
 exact⟨rfl,fun h=>(v9 (I8 h) (by omega)).1,fun h=>absurd h (by decide)⟩
theorem Gz (k:Key):
 true=true/\
  (decide (ah []=0)=true->1=bn [] k true)/\
   (decide (ah []=0)=false->
    ((!aO [] k|| !decide (k.kind=3))=true->190=bn [] k true)/\
      ((!aO [] k|| !decide (k.kind=3))=false->
        ((!decide (aS BinOp.and IntKind.i64 k.rights 1=0))=true->191=bn [] k true)/\
          ((!decide (aS BinOp.and IntKind.i64 k.rights 1=0))=false->
            true=true/\true=true/\Ax 0 64 64/\true=true/\False))):=by
 exact⟨rfl,fun h=>(v9 (I8 h) (by omega)).1,fun h=>absurd h (by decide)⟩
theorem Na (L:List Sx.Obj) (k:Key) (hL:an L):
 true=true/\
  (decide (ah L=0)=true->1=bn L k true/\L=fK L k)/\
   (decide (ah L=0)=false->
    ((!aO L k|| !decide (k.kind=3))=true->190=bn L k true/\L=fK L k)/\
      ((!aO L k|| !decide (k.kind=3))=false->
        ((!decide (aS BinOp.and IntKind.i64 k.rights 1=0))=true->191=bn L k true/\L=fK L k)/\
          ((!decide (aS BinOp.and IntKind.i64 k.rights 1=0))=false->
            true=true/\
             true=true/\
              Ax 0 64 64/\
               true=true/\
                eH L k.oid
                   {kind:=(aa L k).kind,count:=(aa L k).count,calls:=(aa L k).calls,
                    slots:=(aa L k).slots,
                    bytes:=AX (aa L k).bytes (Int.toNat 0) (Int.toNat 64)}=
                  bn L k true/\
                 bO L k.oid
                   {kind:=(aa L k).kind,count:=(aa L k).count,calls:=(aa L k).calls,
                    slots:=(aa L k).slots,
                    bytes:=AX (aa L k).bytes (Int.toNat 0) (Int.toNat 64)}=
                  fK L k))):=by
 refine⟨rfl,fun h=>v9 (I8 h) (by omega),fun h=>⟨fun h2=>v9 (Ra h h2) (by omega),fun h2=>⟨fun h3=>v9 (TE h h2 h3) (by omega),fun h3=>?_⟩⟩⟩
 obtain⟨a,b,c⟩:=RT hL (oV h2).1 (oV h2).2 (RD h h2 h3);exact⟨rfl,rfl,a,rfl,b,c⟩
theorem Lc (L:List Sx.Obj) (k:Key) (hL:an L):aj Tryz.prog 162 [.lp 0 0,.key k] [.store tS eS L] (yZ (.it .i64 (bn L k true)) (fK L k)) (fun _ _=>False):=
 bL (inl:=(fun f=>f==204||f==206||f==208)) (ann:=aQ) (ab aW (ab bj aq)) (aB bY ay) (Na L k hL) (by kernel_rfl)
theorem LX:p5 Tryz.prog 162 Pp:=
 lg (m:=fun x=> [.key x]) J8 (fun _=>rfl) (fun _ _=>rfl) (fun x=>bL (inl:=(fun f=>f==204||f==206||f==208)) (ann:=aQ) (ab aW (ab bj aq)) (aB bY ay) (HR x) (by kernel_rfl)) (fun x=>bL (inl:=(fun f=>f==204||f==206||f==208)) (ann:=aQ) (ab aW (ab bj aq)) (aB bY ay) (Gz x) (by kernel_rfl)) fun L x hL _ _=>Lc L x hL
theorem MW (t f:Key):
 true=true/\
  (decide (ah []=0)=true->1=cL [] t f)/\
   (decide (ah []=0)=false->
    ((!aO [] t|| !decide (t.kind=3))=true->190=cL [] t f)/\
      ((!aO [] t|| !decide (t.kind=3))=false->
        ((!decide (aS BinOp.and IntKind.i64 t.rights 1=0))=true->191=cL [] t f)/\
          ((!decide (aS BinOp.and IntKind.i64 t.rights 1=0))=false->
            true=true/\
             (decide (ah []=0)=true->1=cL [] t f)/\
              (decide (ah []=0)=false->
               ((!aO [] f|| !decide (f.kind=3))=true->190=cL [] t f)/\
                 ((!aO [] f|| !decide (f.kind=3))=false->
                   true=true/\
                    true=true/\
                     true=true/\
                      eH [] t.oid
                        {kind:=(aa [] t).kind,count:=(aa [] t).count,
                         calls:=(aa [] t).calls,slots:=(aa [] t).slots,
                         bytes:=(aa [] f).bytes}=
                       cL [] t f))))):=by
 exact⟨rfl,fun h=>(wq (I8 h) (by omega)).1,fun h=>absurd h (by decide)⟩
theorem Mp (t f:Key):
 true=true/\
  (decide (ah []=0)=true->1=cL [] t f)/\
   (decide (ah []=0)=false->
    ((!aO [] t|| !decide (t.kind=3))=true->190=cL [] t f)/\
      ((!aO [] t|| !decide (t.kind=3))=false->
        ((!decide (aS BinOp.and IntKind.i64 t.rights 1=0))=true->191=cL [] t f)/\
          ((!decide (aS BinOp.and IntKind.i64 t.rights 1=0))=false->
            true=true/\
             (decide (ah []=0)=true->1=cL [] t f)/\
              (decide (ah []=0)=false->
               ((!aO [] f|| !decide (f.kind=3))=true->190=cL [] t f)/\
                 ((!aO [] f|| !decide (f.kind=3))=false->
                   true=true/\true=true/\true=true/\False))))):=by
 exact⟨rfl,fun h=>(wq (I8 h) (by omega)).1,fun h=>absurd h (by decide)⟩
theorem OL (L:List Sx.Obj) (t f:Key) (hL:an L):
 true=true/\
  (decide (ah L=0)=true->1=cL L t f/\L=fN L t f)/\
   (decide (ah L=0)=false->
    ((!aO L t|| !decide (t.kind=3))=true->190=cL L t f/\L=fN L t f)/\
      ((!aO L t|| !decide (t.kind=3))=false->
        ((!decide (aS BinOp.and IntKind.i64 t.rights 1=0))=true->191=cL L t f/\L=fN L t f)/\
          ((!decide (aS BinOp.and IntKind.i64 t.rights 1=0))=false->
            true=true/\
             (decide (ah L=0)=true->1=cL L t f/\L=fN L t f)/\
              (decide (ah L=0)=false->
               ((!aO L f|| !decide (f.kind=3))=true->190=cL L t f/\L=fN L t f)/\
                 ((!aO L f|| !decide (f.kind=3))=false->
                   true=true/\
                    true=true/\
                     true=true/\
                      eH L t.oid
                         {kind:=(aa L t).kind,count:=(aa L t).count,
                          calls:=(aa L t).calls,slots:=(aa L t).slots,
                          bytes:=(aa L f).bytes}=
                        cL L t f/\
                       bO L t.oid
                         {kind:=(aa L t).kind,count:=(aa L t).count,
                          calls:=(aa L t).calls,slots:=(aa L t).slots,
                          bytes:=(aa L f).bytes}=
                        fN L t f))))):=by
 refine⟨rfl,fun h=>wq (I8 h) (by omega),fun h=>⟨fun h2=>wq (Ra h h2) (by omega),fun h2=>⟨fun h3=>wq (TE h h2 h3) (by omega),fun h3=>⟨rfl,fun h'=>?_,fun _=>⟨fun h5=>Lr (RD h h2 h3) (Ra h h5) (by omega),fun h5=>?_⟩⟩⟩⟩⟩
 ·rw[h]at h';simp at h'
 ·obtain⟨b,c⟩:=R1 hL (oV h2).1 (oV h2).2 (RD h h2 h3) (oV h5).1 (Ro h h5);exact⟨rfl,rfl,rfl,b,c⟩
theorem Pg (L:List Sx.Obj) (t f:Key) (hL:an L):aj Tryz.prog 164 [.lp 0 0,.key t,.key f] [.store tS eS L] (yZ (.it .i64 (cL L t f)) (fN L t f)) (fun _ _=>False):=
 bL (inl:=(fun f=>f==204||f==206||f==209)) (ann:=aQ) (ab aW (ab bj aq)) (aB bY ay) (OL L t f hL) (by kernel_rfl)
theorem Ps:p5 Tryz.prog 164 SA:=
 lg (m:=fun x=> [.key x.1,.key x.2]) DN (fun _=>rfl) (fun _ _=>rfl) (fun x=>bL (inl:=(fun f=>f==204||f==206||f==209)) (ann:=aQ) (ab aW (ab bj aq)) (aB bY ay) (MW x.1 x.2) (by kernel_rfl)) (fun x=>bL (inl:=(fun f=>f==204||f==206||f==209)) (ann:=aQ) (ab aW (ab bj aq)) (aB bY ay) (Mp x.1 x.2) (by kernel_rfl)) fun L x hL _ _=>Pg L x.1 x.2 hL
end Go.Proofs.YtlblcfaclmpekaaGreat
