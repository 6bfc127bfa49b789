import Derived.Test.YtlblcfaclmpekaaGreatCN
import Derived.Test.YtlblcfaclmpekaaGreatKS
import Derived.Test.YtlblcfaclmpekaaGreatSpP
set_option linter.unusedSimpArgs false
set_option linter.unusedVariables false
namespace Go.Proofs.YtlblcfaclmpekaaGreat
open Go.Sx
set_option maxRecDepth 100000
theorem GH (i n:Int):
 ((decide (0<=i)&&decide (0<=n)&&decide (i<=64))=true->aP IntKind.i64 (64-i))/\
   (decide (0<=i)&&decide (0<=n)&&decide (i<=64)&&decide (n<=64-i))=dA i n:=by
 unfold dA;refine⟨fun h=>?_,?_⟩
 ·simp only[VK,VL]at h;simp only[aP,cj];omega
 ·rfl
theorem ni:dD Tryz.prog 205 IA:=
 wm (gJ .i64) (gJ .i64) (fun _ _=>rfl) fun i n _ _=>bx (inl:=ca) (ann:=aV) ay (GH i n) (by kernel_rfl)
theorem FD (k:Key) (i n:Int):
 true=true/\
  (decide (aj []=0)=true->(⟨#[]⟩:ByteArray)=dV [] k i n/\1=b6 [] k i n)/\
   (decide (aj []=0)=false->
    ((!aT [] k|| !decide (k.kind=3))=true->
      (⟨#[]⟩:ByteArray)=dV [] k i n/\190=b6 [] k i n)/\
      ((!aT [] k|| !decide (k.kind=3))=false->
        ((!dA i n)=true->(⟨#[]⟩:ByteArray)=dV [] k i n/\4=b6 [] k i n)/\
          ((!dA i n)=false->
            aP IntKind.i64 (i+n)/\
             As i (i+n) 64/\
              xz (aa [] k).bytes i.toNat (i+n).toNat=dV [] k i n/\0=b6 [] k i n))):=by
 refine⟨rfl,fun h=>sI (Iw h) (by omega),fun h=>⟨fun h2=>sI (RW h h2) (by omega),fun h2=>⟨fun h3=>AL (SQ h h2) h3,fun h3=>?_⟩⟩⟩
 rw[(eF (pS h2).1).2.2.2.1];exact DS (SQ h h2) h3
theorem Ls (L:List Sx.Obj) (k:Key) (i n:Int):
 true=true/\
  (decide (aj L=0)=true->(⟨#[]⟩:ByteArray)=dV L k i n/\1=b6 L k i n)/\
   (decide (aj L=0)=false->
    ((!aT L k|| !decide (k.kind=3))=true->
      (⟨#[]⟩:ByteArray)=dV L k i n/\190=b6 L k i n)/\
      ((!aT L k|| !decide (k.kind=3))=false->
        ((!dA i n)=true->(⟨#[]⟩:ByteArray)=dV L k i n/\4=b6 L k i n)/\
          ((!dA i n)=false->
            aP IntKind.i64 (i+n)/\
             As i (i+n) 64/\
              xz (aa L k).bytes i.toNat (i+n).toNat=dV L k i n/\0=b6 L k i n))):=by
 refine⟨rfl,fun h=>sI (Iw h) (by omega),fun h=>⟨fun h2=>sI (RW h h2) (by omega),fun h2=>⟨fun h3=>AL (SQ h h2) h3,fun h3=>?_⟩⟩⟩
 rw[(eF (pS h2).1).2.2.2.1];exact DS (SQ h h2) h3
theorem nC:dD Tryz.prog 203 Oy:=
 jH (aQ qL (aQ mC (aQ fP (aQ fP dU)))) (fun _=>rfl) fun a hq hok=>by
  obtain⟨S,k,i,n,_⟩:=a;cases S with
  |none=>exact bR (inl:=(fun f=>f==204)) (ann:=aV) (ae bd (ae br (ae ni ay))) aB (FD k i n) (by kernel_rfl)
  |some L=>exact bR (inl:=(fun f=>f==204)) (ann:=aV) (ae bd (ae br (ae ni ay))) aB (Ls L k i n) (by kernel_rfl)
end Go.Proofs.YtlblcfaclmpekaaGreat
namespace Go.Proofs.YtlblcfaclmpekaaGreat
open Go.Sx
set_option maxRecDepth 100000
theorem Oi (k:Key) (i:Int) (s:ByteArray):
 true=true/\
  (decide (aj []=0)=true->1=cZ [] k i s)/\
   (decide (aj []=0)=false->
    ((!aT [] k|| !decide (k.kind=3))=true->190=cZ [] k i s)/\
      ((!aT [] k|| !decide (k.kind=3))=false->
        ((!decide (aY BinOp.and IntKind.i64 k.rights 1=0))=true->191=cZ [] k i s)/\
          ((!decide (aY BinOp.and IntKind.i64 k.rights 1=0))=false->
            aP IntKind.i64 (cC s)/\
             ((!dA i (cC s))=true->4=cZ [] k i s)/\
               ((!dA i (cC s))=false->
                 true=true/\
                  true=true/\
                   As i 64 64/\
                    true=true/\
                     eP [] k.oid
                       {kind:=(aa [] k).kind,count:=(aa [] k).count,
                        calls:=(aa [] k).calls,slots:=(aa [] k).slots,
                        bytes:=GM (aa [] k).bytes i.toNat (Int.toNat 64) s}=
                      cZ [] k i s)))):=by
 exact⟨rfl,fun h=>(wz (Iw h) (by omega)).1,fun h=>absurd h (by decide)⟩
theorem OJ (k:Key) (i:Int) (s:ByteArray):
 true=true/\
  (decide (aj []=0)=true->1=cZ [] k i s)/\
   (decide (aj []=0)=false->
    ((!aT [] k|| !decide (k.kind=3))=true->190=cZ [] k i s)/\
      ((!aT [] k|| !decide (k.kind=3))=false->
        ((!decide (aY BinOp.and IntKind.i64 k.rights 1=0))=true->191=cZ [] k i s)/\
          ((!decide (aY BinOp.and IntKind.i64 k.rights 1=0))=false->
            aP IntKind.i64 (cC s)/\
             ((!dA i (cC s))=true->4=cZ [] k i s)/\
               ((!dA i (cC s))=false->true=true/\true=true/\As i 64 64/\true=true/\False)))):=by
 exact⟨rfl,fun h=>(wz (Iw h) (by omega)).1,fun h=>absurd h (by decide)⟩
theorem P0 (L:List Sx.Obj) (k:Key) (i:Int) (s:ByteArray) (hL:aw L) (hs:az s):
 true=true/\
  (decide (aj L=0)=true->1=cZ L k i s/\L=fb L k i s)/\
   (decide (aj L=0)=false->
    ((!aT L k|| !decide (k.kind=3))=true->190=cZ L k i s/\L=fb L k i s)/\
      ((!aT L k|| !decide (k.kind=3))=false->
        ((!decide (aY BinOp.and IntKind.i64 k.rights 1=0))=true->
          191=cZ L k i s/\L=fb L k i s)/\
          ((!decide (aY BinOp.and IntKind.i64 k.rights 1=0))=false->
            aP IntKind.i64 (cC s)/\
             ((!dA i (cC s))=true->4=cZ L k i s/\L=fb L k i s)/\
               ((!dA i (cC s))=false->
                 true=true/\
                  true=true/\
                   As i 64 64/\
                    true=true/\
                     eP L k.oid
                        {kind:=(aa L k).kind,count:=(aa L k).count,
                         calls:=(aa L k).calls,slots:=(aa L k).slots,
                         bytes:=GM (aa L k).bytes i.toNat (Int.toNat 64) s}=
                       cZ L k i s/\
                      bP L k.oid
                        {kind:=(aa L k).kind,count:=(aa L k).count,
                         calls:=(aa L k).calls,slots:=(aa L k).slots,
                         bytes:=GM (aa L k).bytes i.toNat (Int.toNat 64) s}=
                       fb L k i s)))):=by
 refine⟨rfl,fun h=>wz (Iw h) (by omega),fun h=>⟨fun h2=>wz (RW h h2) (by omega),fun h2=>⟨fun h3=>wz (U5 h h2 h3) (by omega),fun h3=>⟨?_,fun h4=>PQ (Sm h h2 h3) h4,fun h4=>?_⟩⟩⟩⟩
 ·unfold az at hs;simp only[aP,cj,cC];omega
 ·obtain⟨a,b,c⟩:=R9 hL (pS h2).1 (pS h2).2 (Sm h h2 h3) h4;exact⟨rfl,rfl,a,rfl,b,c⟩
theorem Q7 (L:List Sx.Obj) (k:Key) (i:Int) (s:ByteArray) (hL:aw L) (hs:az s):ak Tryz.prog 160 [.lp 0 0,.key k,.it .i64 i,.st s] [.store tS eS L] (Ae (.it .i64 (cZ L k i s)) (fb L k i s)) (fun _ _=>False):=
 bR (inl:=(fun f=>f==204||f==206||f==207)) (ann:=aV) (ae bd (ae br (ae ni ay))) (aF cx aB) (P0 L k i s hL hs) (by kernel_rfl)
theorem zM:oM Tryz.prog 160 Td:=
 lO (m:=fun x=> [.key x.1,.it .i64 x.2.1,.st x.2.2]) BU (fun _=>rfl) (fun _ _=>rfl) (fun x=>bR (inl:=(fun f=>f==204||f==206||f==207)) (ann:=aV) (ae bd (ae br (ae ni ay))) (aF cx aB) (Oi x.1 x.2.1 x.2.2) (by kernel_rfl)) (fun x=>bR (inl:=(fun f=>f==204||f==206||f==207)) (ann:=aV) (ae bd (ae br (ae ni ay))) (aF cx aB) (OJ x.1 x.2.1 x.2.2) (by kernel_rfl)) fun L x hL _ _=>Q7 L x.1 x.2.1 x.2.2 hL.1 hL.2
theorem Ie (k:Key):
 true=true/\
  (decide (aj []=0)=true->1=bC [] k true)/\
   (decide (aj []=0)=false->
    ((!aT [] k|| !decide (k.kind=3))=true->190=bC [] k true)/\
      ((!aT [] k|| !decide (k.kind=3))=false->
        ((!decide (aY BinOp.and IntKind.i64 k.rights 1=0))=true->191=bC [] k true)/\
          ((!decide (aY BinOp.and IntKind.i64 k.rights 1=0))=false->
            true=true/\
             true=true/\
              As 0 64 64/\
               true=true/\
                eP [] k.oid
                  {kind:=(aa [] k).kind,count:=(aa [] k).count,calls:=(aa [] k).calls,
                   slots:=(aa [] k).slots,
                   bytes:=Ap (aa [] k).bytes (Int.toNat 0) (Int.toNat 64)}=
                 bC [] k true))):=by
 exact⟨rfl,fun h=>(vS (Iw h) (by omega)).1,fun h=>absurd h (by decide)⟩
theorem HV (k:Key):
 true=true/\
  (decide (aj []=0)=true->1=bC [] k true)/\
   (decide (aj []=0)=false->
    ((!aT [] k|| !decide (k.kind=3))=true->190=bC [] k true)/\
      ((!aT [] k|| !decide (k.kind=3))=false->
        ((!decide (aY BinOp.and IntKind.i64 k.rights 1=0))=true->191=bC [] k true)/\
          ((!decide (aY BinOp.and IntKind.i64 k.rights 1=0))=false->
            true=true/\true=true/\As 0 64 64/\true=true/\False))):=by
 exact⟨rfl,fun h=>(vS (Iw h) (by omega)).1,fun h=>absurd h (by decide)⟩
theorem Me (L:List Sx.Obj) (k:Key) (hL:aw L):
 true=true/\
  (decide (aj L=0)=true->1=bC L k true/\L=fM L k)/\
   (decide (aj L=0)=false->
    ((!aT L k|| !decide (k.kind=3))=true->190=bC L k true/\L=fM L k)/\
      ((!aT L k|| !decide (k.kind=3))=false->
        ((!decide (aY BinOp.and IntKind.i64 k.rights 1=0))=true->191=bC L k true/\L=fM L k)/\
          ((!decide (aY BinOp.and IntKind.i64 k.rights 1=0))=false->
            true=true/\
             true=true/\
              As 0 64 64/\
               true=true/\
                eP L k.oid
                   {kind:=(aa L k).kind,count:=(aa L k).count,calls:=(aa L k).calls,
                    slots:=(aa L k).slots,
                    bytes:=Ap (aa L k).bytes (Int.toNat 0) (Int.toNat 64)}=
                  bC L k true/\
                 bP L k.oid
                   {kind:=(aa L k).kind,count:=(aa L k).count,calls:=(aa L k).calls,
                    slots:=(aa L k).slots,
                    bytes:=Ap (aa L k).bytes (Int.toNat 0) (Int.toNat 64)}=
                  fM L k))):=by
 refine⟨rfl,fun h=>vS (Iw h) (by omega),fun h=>⟨fun h2=>vS (RW h h2) (by omega),fun h2=>⟨fun h3=>vS (U5 h h2 h3) (by omega),fun h3=>?_⟩⟩⟩
 obtain⟨a,b,c⟩:=S4 hL (pS h2).1 (pS h2).2 (Sm h h2 h3);exact⟨rfl,rfl,a,rfl,b,c⟩
theorem L3 (L:List Sx.Obj) (k:Key) (hL:aw L):ak Tryz.prog 162 [.lp 0 0,.key k] [.store tS eS L] (Ae (.it .i64 (bC L k true)) (fM L k)) (fun _ _=>False):=
 bR (inl:=(fun f=>f==204||f==206||f==208)) (ann:=aV) (ae bd (ae br ay)) (aF cx aB) (Me L k hL) (by kernel_rfl)
theorem Ml:oM Tryz.prog 162 PM:=
 lO (m:=fun x=> [.key x]) HR (fun _=>rfl) (fun _ _=>rfl) (fun x=>bR (inl:=(fun f=>f==204||f==206||f==208)) (ann:=aV) (ae bd (ae br ay)) (aF cx aB) (Ie x) (by kernel_rfl)) (fun x=>bR (inl:=(fun f=>f==204||f==206||f==208)) (ann:=aV) (ae bd (ae br ay)) (aF cx aB) (HV x) (by kernel_rfl)) fun L x hL _ _=>L3 L x hL
theorem Nw (t f:Key):
 true=true/\
  (decide (aj []=0)=true->1=cV [] t f)/\
   (decide (aj []=0)=false->
    ((!aT [] t|| !decide (t.kind=3))=true->190=cV [] t f)/\
      ((!aT [] t|| !decide (t.kind=3))=false->
        ((!decide (aY BinOp.and IntKind.i64 t.rights 1=0))=true->191=cV [] t f)/\
          ((!decide (aY BinOp.and IntKind.i64 t.rights 1=0))=false->
            true=true/\
             (decide (aj []=0)=true->1=cV [] t f)/\
              (decide (aj []=0)=false->
               ((!aT [] f|| !decide (f.kind=3))=true->190=cV [] t f)/\
                 ((!aT [] f|| !decide (f.kind=3))=false->
                   true=true/\
                    true=true/\
                     true=true/\
                      eP [] t.oid
                        {kind:=(aa [] t).kind,count:=(aa [] t).count,
                         calls:=(aa [] t).calls,slots:=(aa [] t).slots,
                         bytes:=(aa [] f).bytes}=
                       cV [] t f))))):=by
 exact⟨rfl,fun h=>(vH (Iw h) (by omega)).1,fun h=>absurd h (by decide)⟩
theorem Nt (t f:Key):
 true=true/\
  (decide (aj []=0)=true->1=cV [] t f)/\
   (decide (aj []=0)=false->
    ((!aT [] t|| !decide (t.kind=3))=true->190=cV [] t f)/\
      ((!aT [] t|| !decide (t.kind=3))=false->
        ((!decide (aY BinOp.and IntKind.i64 t.rights 1=0))=true->191=cV [] t f)/\
          ((!decide (aY BinOp.and IntKind.i64 t.rights 1=0))=false->
            true=true/\
             (decide (aj []=0)=true->1=cV [] t f)/\
              (decide (aj []=0)=false->
               ((!aT [] f|| !decide (f.kind=3))=true->190=cV [] t f)/\
                 ((!aT [] f|| !decide (f.kind=3))=false->
                   true=true/\true=true/\true=true/\False))))):=by
 exact⟨rfl,fun h=>(vH (Iw h) (by omega)).1,fun h=>absurd h (by decide)⟩
theorem PT (L:List Sx.Obj) (t f:Key) (hL:aw L):
 true=true/\
  (decide (aj L=0)=true->1=cV L t f/\L=fS L t f)/\
   (decide (aj L=0)=false->
    ((!aT L t|| !decide (t.kind=3))=true->190=cV L t f/\L=fS L t f)/\
      ((!aT L t|| !decide (t.kind=3))=false->
        ((!decide (aY BinOp.and IntKind.i64 t.rights 1=0))=true->191=cV L t f/\L=fS L t f)/\
          ((!decide (aY BinOp.and IntKind.i64 t.rights 1=0))=false->
            true=true/\
             (decide (aj L=0)=true->1=cV L t f/\L=fS L t f)/\
              (decide (aj L=0)=false->
               ((!aT L f|| !decide (f.kind=3))=true->190=cV L t f/\L=fS L t f)/\
                 ((!aT L f|| !decide (f.kind=3))=false->
                   true=true/\
                    true=true/\
                     true=true/\
                      eP L t.oid
                         {kind:=(aa L t).kind,count:=(aa L t).count,
                          calls:=(aa L t).calls,slots:=(aa L t).slots,
                          bytes:=(aa L f).bytes}=
                        cV L t f/\
                       bP L t.oid
                         {kind:=(aa L t).kind,count:=(aa L t).count,
                          calls:=(aa L t).calls,slots:=(aa L t).slots,
                          bytes:=(aa L f).bytes}=
                        fS L t f))))):=by
 refine⟨rfl,fun h=>vH (Iw h) (by omega),fun h=>⟨fun h2=>vH (RW h h2) (by omega),fun h2=>⟨fun h3=>vH (U5 h h2 h3) (by omega),fun h3=>⟨rfl,fun h'=>?_,fun _=>⟨fun h5=>MA (Sm h h2 h3) (RW h h5) (by omega),fun h5=>?_⟩⟩⟩⟩⟩
 ·rw[h]at h';simp at h'
 ·obtain⟨b,c⟩:=S2 hL (pS h2).1 (pS h2).2 (Sm h h2 h3) (pS h5).1 (SQ h h5);exact⟨rfl,rfl,rfl,b,c⟩
theorem PF (L:List Sx.Obj) (t f:Key) (hL:aw L):ak Tryz.prog 164 [.lp 0 0,.key t,.key f] [.store tS eS L] (Ae (.it .i64 (cV L t f)) (fS L t f)) (fun _ _=>False):=
 bR (inl:=(fun f=>f==204||f==206||f==209)) (ann:=aV) (ae bd (ae br ay)) (aF cx aB) (PT L t f hL) (by kernel_rfl)
theorem Rr:oM Tryz.prog 164 SO:=
 lO (m:=fun x=> [.key x.1,.key x.2]) D4 (fun _=>rfl) (fun _ _=>rfl) (fun x=>bR (inl:=(fun f=>f==204||f==206||f==209)) (ann:=aV) (ae bd (ae br ay)) (aF cx aB) (Nw x.1 x.2) (by kernel_rfl)) (fun x=>bR (inl:=(fun f=>f==204||f==206||f==209)) (ann:=aV) (ae bd (ae br ay)) (aF cx aB) (Nt x.1 x.2) (by kernel_rfl)) fun L x hL _ _=>PF L x.1 x.2 hL
end Go.Proofs.YtlblcfaclmpekaaGreat
