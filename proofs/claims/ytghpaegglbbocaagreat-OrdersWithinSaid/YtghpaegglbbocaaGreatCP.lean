import Derived.Test.YtghpaegglbbocaaGreatCN
import Derived.Test.YtghpaegglbbocaaGreatKS
import Derived.Test.YtghpaegglbbocaaGreatSpP
set_option linter.unusedSimpArgs false
set_option linter.unusedVariables false
namespace Go.Proofs.YtghpaegglbbocaaGreat
open Go.Sx
set_option maxRecDepth 100000
theorem EE (i n:Int):
 ((decide (0<=i)&&decide (0<=n)&&decide (i<=64))=true->aQ IntKind.i64 (64-i))/\
   (decide (0<=i)&&decide (0<=n)&&decide (i<=64)&&decide (n<=64-i))=dh i n:=by
 unfold dh;refine⟨fun h=>?_,?_⟩
 ·simp only[Th,Ti]at h;simp only[aQ,cy];omega
 ·rfl
theorem mh:cW Tryz.prog 144 HJ:=
 oI (fF .i64) (fF .i64) (fun _ _=>rfl) fun i n _ _=>bh (inl:=bM) (ann:=aL) ak (EE i n) (by kernel_rfl)
theorem EL (k:Key) (i n:Int):
 true=true/\
  (decide (ah []=0)=true->(⟨#[]⟩:ByteArray)=ec [] k i n/\1=bQ [] k i n)/\
   (decide (ah []=0)=false->
    ((!aM [] k|| !decide (k.kind=3))=true->
      (⟨#[]⟩:ByteArray)=ec [] k i n/\190=bQ [] k i n)/\
      ((!aM [] k|| !decide (k.kind=3))=false->
        ((!dh i n)=true->(⟨#[]⟩:ByteArray)=ec [] k i n/\4=bQ [] k i n)/\
          ((!dh i n)=false->
            aQ IntKind.i64 (i+n)/\
             BM i (i+n) 64/\
              B2 (aa [] k).bytes i.toNat (i+n).toNat=ec [] k i n/\0=bQ [] k i n))):=by
 refine⟨rfl,fun h=>qD (FZ h) (by omega),fun h=>⟨fun h2=>qD (PY h h2) (by omega),fun h2=>⟨fun h3=>Ba (Qj h h2) h3,fun h3=>?_⟩⟩⟩
 rw[(ea (nP h2).1).2.2.2.1];exact C6 (Qj h h2) h3
theorem GX (L:List Sx.Obj) (k:Key) (i n:Int):
 true=true/\
  (decide (ah L=0)=true->(⟨#[]⟩:ByteArray)=ec L k i n/\1=bQ L k i n)/\
   (decide (ah L=0)=false->
    ((!aM L k|| !decide (k.kind=3))=true->
      (⟨#[]⟩:ByteArray)=ec L k i n/\190=bQ L k i n)/\
      ((!aM L k|| !decide (k.kind=3))=false->
        ((!dh i n)=true->(⟨#[]⟩:ByteArray)=ec L k i n/\4=bQ L k i n)/\
          ((!dh i n)=false->
            aQ IntKind.i64 (i+n)/\
             BM i (i+n) 64/\
              B2 (aa L k).bytes i.toNat (i+n).toNat=ec L k i n/\0=bQ L k i n))):=by
 refine⟨rfl,fun h=>qD (FZ h) (by omega),fun h=>⟨fun h2=>qD (PY h h2) (by omega),fun h2=>⟨fun h3=>Ba (Qj h h2) h3,fun h3=>?_⟩⟩⟩
 rw[(ea (nP h2).1).2.2.2.1];exact C6 (Qj h h2) h3
theorem mi:cW Tryz.prog 142 Mb:=
 kY (aY rf (aY mF (aY j6 (aY j6 fz)))) (fun _=>rfl) fun a hq hok=>by
  obtain⟨S,k,i,n,_⟩:=a;cases S with
  |none=>exact cg (inl:=(fun f=>f==143)) (ann:=aL) (ab aX (ab bp (ab mh ak))) aA (EL k i n) (by kernel_rfl)
  |some L=>exact cg (inl:=(fun f=>f==143)) (ann:=aL) (ab aX (ab bp (ab mh ak))) aA (GX L k i n) (by kernel_rfl)
end Go.Proofs.YtghpaegglbbocaaGreat
namespace Go.Proofs.YtghpaegglbbocaaGreat
open Go.Sx
set_option maxRecDepth 100000
theorem MQ (k:Key) (i:Int) (s:ByteArray):
 true=true/\
  (decide (ah []=0)=true->1=cJ [] k i s)/\
   (decide (ah []=0)=false->
    ((!aM [] k|| !decide (k.kind=3))=true->190=cJ [] k i s)/\
      ((!aM [] k|| !decide (k.kind=3))=false->
        ((!decide (aO BinOp.and IntKind.i64 k.rights 1=0))=true->191=cJ [] k i s)/\
          ((!decide (aO BinOp.and IntKind.i64 k.rights 1=0))=false->
            aQ IntKind.i64 (dK s)/\
             ((!dh i (dK s))=true->4=cJ [] k i s)/\
               ((!dh i (dK s))=false->
                 true=true/\
                  true=true/\
                   BM i 64 64/\
                    true=true/\
                     dT [] k.oid
                       {kind:=(aa [] k).kind,count:=(aa [] k).count,
                        calls:=(aa [] k).calls,slots:=(aa [] k).slots,
                        bytes:=NB (aa [] k).bytes i.toNat (Int.toNat 64) s}=
                      cJ [] k i s)))):=by
 exact⟨rfl,fun h=>(vH (FZ h) (by omega)).1,fun h=>absurd h (by decide)⟩
theorem Lo (k:Key) (i:Int) (s:ByteArray):
 true=true/\
  (decide (ah []=0)=true->1=cJ [] k i s)/\
   (decide (ah []=0)=false->
    ((!aM [] k|| !decide (k.kind=3))=true->190=cJ [] k i s)/\
      ((!aM [] k|| !decide (k.kind=3))=false->
        ((!decide (aO BinOp.and IntKind.i64 k.rights 1=0))=true->191=cJ [] k i s)/\
          ((!decide (aO BinOp.and IntKind.i64 k.rights 1=0))=false->
            aQ IntKind.i64 (dK s)/\
             ((!dh i (dK s))=true->4=cJ [] k i s)/\
               ((!dh i (dK s))=false->true=true/\true=true/\BM i 64 64/\true=true/\False)))):=by
 exact⟨rfl,fun h=>(vH (FZ h) (by omega)).1,fun h=>absurd h (by decide)⟩
theorem N6 (L:List Sx.Obj) (k:Key) (i:Int) (s:ByteArray) (hL:an L) (hs:az s):
 true=true/\
  (decide (ah L=0)=true->1=cJ L k i s/\L=ew L k i s)/\
   (decide (ah L=0)=false->
    ((!aM L k|| !decide (k.kind=3))=true->190=cJ L k i s/\L=ew L k i s)/\
      ((!aM L k|| !decide (k.kind=3))=false->
        ((!decide (aO BinOp.and IntKind.i64 k.rights 1=0))=true->
          191=cJ L k i s/\L=ew L k i s)/\
          ((!decide (aO BinOp.and IntKind.i64 k.rights 1=0))=false->
            aQ IntKind.i64 (dK s)/\
             ((!dh i (dK s))=true->4=cJ L k i s/\L=ew L k i s)/\
               ((!dh i (dK s))=false->
                 true=true/\
                  true=true/\
                   BM i 64 64/\
                    true=true/\
                     dT L k.oid
                        {kind:=(aa L k).kind,count:=(aa L k).count,
                         calls:=(aa L k).calls,slots:=(aa L k).slots,
                         bytes:=NB (aa L k).bytes i.toNat (Int.toNat 64) s}=
                       cJ L k i s/\
                      cc L k.oid
                        {kind:=(aa L k).kind,count:=(aa L k).count,
                         calls:=(aa L k).calls,slots:=(aa L k).slots,
                         bytes:=NB (aa L k).bytes i.toNat (Int.toNat 64) s}=
                       ew L k i s)))):=by
 refine⟨rfl,fun h=>vH (FZ h) (by omega),fun h=>⟨fun h2=>vH (PY h h2) (by omega),fun h2=>⟨fun h3=>vH (R2 h h2 h3) (by omega),fun h3=>⟨?_,fun h4=>Om (Q0 h h2 h3) h4,fun h4=>?_⟩⟩⟩⟩
 ·unfold az at hs;simp only[aQ,cy,dK];omega
 ·obtain⟨a,b,c⟩:=QZ hL (nP h2).1 (nP h2).2 (Q0 h h2 h3) h4;exact⟨rfl,rfl,a,rfl,b,c⟩
theorem O4 (L:List Sx.Obj) (k:Key) (i:Int) (s:ByteArray) (hL:an L) (hs:az s):ai Tryz.prog 76 [.lp 0 0,.key k,.it .i64 i,.st s] [.store tS eS L] (zO (.it .i64 (cJ L k i s)) (ew L k i s)) (fun _ _=>False):=
 cg (inl:=(fun f=>f==143||f==145||f==146)) (ann:=aL) (ab aX (ab bp (ab mh ak))) (aG c9 aA) (N6 L k i s hL hs) (by kernel_rfl)
theorem zk:ql Tryz.prog 76 Q8:=
 lh (m:=fun x=> [.key x.1,.it .i64 x.2.1,.st x.2.2]) Ag (fun _=>rfl) (fun _ _=>rfl) (fun x=>cg (inl:=(fun f=>f==143||f==145||f==146)) (ann:=aL) (ab aX (ab bp (ab mh ak))) (aG c9 aA) (MQ x.1 x.2.1 x.2.2) (by kernel_rfl)) (fun x=>cg (inl:=(fun f=>f==143||f==145||f==146)) (ann:=aL) (ab aX (ab bp (ab mh ak))) (aG c9 aA) (Lo x.1 x.2.1 x.2.2) (by kernel_rfl)) fun L x hL _ _=>O4 L x.1 x.2.1 x.2.2 hL.1 hL.2
theorem Hp (k:Key):
 true=true/\
  (decide (ah []=0)=true->1=bq [] k true)/\
   (decide (ah []=0)=false->
    ((!aM [] k|| !decide (k.kind=3))=true->190=bq [] k true)/\
      ((!aM [] k|| !decide (k.kind=3))=false->
        ((!decide (aO BinOp.and IntKind.i64 k.rights 1=0))=true->191=bq [] k true)/\
          ((!decide (aO BinOp.and IntKind.i64 k.rights 1=0))=false->
            true=true/\
             true=true/\
              BM 0 64 64/\
               true=true/\
                dT [] k.oid
                  {kind:=(aa [] k).kind,count:=(aa [] k).count,calls:=(aa [] k).calls,
                   slots:=(aa [] k).slots,
                   bytes:=zL (aa [] k).bytes (Int.toNat 0) (Int.toNat 64)}=
                 bq [] k true))):=by
 exact⟨rfl,fun h=>(uR (FZ h) (by omega)).1,fun h=>absurd h (by decide)⟩
theorem HZ (k:Key):
 true=true/\
  (decide (ah []=0)=true->1=bq [] k true)/\
   (decide (ah []=0)=false->
    ((!aM [] k|| !decide (k.kind=3))=true->190=bq [] k true)/\
      ((!aM [] k|| !decide (k.kind=3))=false->
        ((!decide (aO BinOp.and IntKind.i64 k.rights 1=0))=true->191=bq [] k true)/\
          ((!decide (aO BinOp.and IntKind.i64 k.rights 1=0))=false->
            true=true/\true=true/\BM 0 64 64/\true=true/\False))):=by
 exact⟨rfl,fun h=>(uR (FZ h) (by omega)).1,fun h=>absurd h (by decide)⟩
theorem Me (L:List Sx.Obj) (k:Key) (hL:an L):
 true=true/\
  (decide (ah L=0)=true->1=bq L k true/\L=eL L k)/\
   (decide (ah L=0)=false->
    ((!aM L k|| !decide (k.kind=3))=true->190=bq L k true/\L=eL L k)/\
      ((!aM L k|| !decide (k.kind=3))=false->
        ((!decide (aO BinOp.and IntKind.i64 k.rights 1=0))=true->191=bq L k true/\L=eL L k)/\
          ((!decide (aO BinOp.and IntKind.i64 k.rights 1=0))=false->
            true=true/\
             true=true/\
              BM 0 64 64/\
               true=true/\
                dT L k.oid
                   {kind:=(aa L k).kind,count:=(aa L k).count,calls:=(aa L k).calls,
                    slots:=(aa L k).slots,
                    bytes:=zL (aa L k).bytes (Int.toNat 0) (Int.toNat 64)}=
                  bq L k true/\
                 cc L k.oid
                   {kind:=(aa L k).kind,count:=(aa L k).count,calls:=(aa L k).calls,
                    slots:=(aa L k).slots,
                    bytes:=zL (aa L k).bytes (Int.toNat 0) (Int.toNat 64)}=
                  eL L k))):=by
 refine⟨rfl,fun h=>uR (FZ h) (by omega),fun h=>⟨fun h2=>uR (PY h h2) (by omega),fun h2=>⟨fun h3=>uR (R2 h h2 h3) (by omega),fun h3=>?_⟩⟩⟩
 obtain⟨a,b,c⟩:=Qy hL (nP h2).1 (nP h2).2 (Q0 h h2 h3);exact⟨rfl,rfl,a,rfl,b,c⟩
theorem K8 (L:List Sx.Obj) (k:Key) (hL:an L):ai Tryz.prog 78 [.lp 0 0,.key k] [.store tS eS L] (zO (.it .i64 (bq L k true)) (eL L k)) (fun _ _=>False):=
 cg (inl:=(fun f=>f==143||f==145||f==147)) (ann:=aL) (ab aX (ab bp ak)) (aG c9 aA) (Me L k hL) (by kernel_rfl)
theorem Mv:ql Tryz.prog 78 Og:=
 lh (m:=fun x=> [.key x]) Jn (fun _=>rfl) (fun _ _=>rfl) (fun x=>cg (inl:=(fun f=>f==143||f==145||f==147)) (ann:=aL) (ab aX (ab bp ak)) (aG c9 aA) (Hp x) (by kernel_rfl)) (fun x=>cg (inl:=(fun f=>f==143||f==145||f==147)) (ann:=aL) (ab aX (ab bp ak)) (aG c9 aA) (HZ x) (by kernel_rfl)) fun L x hL _ _=>K8 L x hL
theorem Lc (t f:Key):
 true=true/\
  (decide (ah []=0)=true->1=cL [] t f)/\
   (decide (ah []=0)=false->
    ((!aM [] t|| !decide (t.kind=3))=true->190=cL [] t f)/\
      ((!aM [] t|| !decide (t.kind=3))=false->
        ((!decide (aO BinOp.and IntKind.i64 t.rights 1=0))=true->191=cL [] t f)/\
          ((!decide (aO BinOp.and IntKind.i64 t.rights 1=0))=false->
            true=true/\
             (decide (ah []=0)=true->1=cL [] t f)/\
              (decide (ah []=0)=false->
               ((!aM [] f|| !decide (f.kind=3))=true->190=cL [] t f)/\
                 ((!aM [] f|| !decide (f.kind=3))=false->
                   true=true/\
                    true=true/\
                     true=true/\
                      dT [] t.oid
                        {kind:=(aa [] t).kind,count:=(aa [] t).count,
                         calls:=(aa [] t).calls,slots:=(aa [] t).slots,
                         bytes:=(aa [] f).bytes}=
                       cL [] t f))))):=by
 exact⟨rfl,fun h=>(vR (FZ h) (by omega)).1,fun h=>absurd h (by decide)⟩
theorem MF (t f:Key):
 true=true/\
  (decide (ah []=0)=true->1=cL [] t f)/\
   (decide (ah []=0)=false->
    ((!aM [] t|| !decide (t.kind=3))=true->190=cL [] t f)/\
      ((!aM [] t|| !decide (t.kind=3))=false->
        ((!decide (aO BinOp.and IntKind.i64 t.rights 1=0))=true->191=cL [] t f)/\
          ((!decide (aO BinOp.and IntKind.i64 t.rights 1=0))=false->
            true=true/\
             (decide (ah []=0)=true->1=cL [] t f)/\
              (decide (ah []=0)=false->
               ((!aM [] f|| !decide (f.kind=3))=true->190=cL [] t f)/\
                 ((!aM [] f|| !decide (f.kind=3))=false->
                   true=true/\true=true/\true=true/\False))))):=by
 exact⟨rfl,fun h=>(vR (FZ h) (by omega)).1,fun h=>absurd h (by decide)⟩
theorem PG (L:List Sx.Obj) (t f:Key) (hL:an L):
 true=true/\
  (decide (ah L=0)=true->1=cL L t f/\L=e9 L t f)/\
   (decide (ah L=0)=false->
    ((!aM L t|| !decide (t.kind=3))=true->190=cL L t f/\L=e9 L t f)/\
      ((!aM L t|| !decide (t.kind=3))=false->
        ((!decide (aO BinOp.and IntKind.i64 t.rights 1=0))=true->191=cL L t f/\L=e9 L t f)/\
          ((!decide (aO BinOp.and IntKind.i64 t.rights 1=0))=false->
            true=true/\
             (decide (ah L=0)=true->1=cL L t f/\L=e9 L t f)/\
              (decide (ah L=0)=false->
               ((!aM L f|| !decide (f.kind=3))=true->190=cL L t f/\L=e9 L t f)/\
                 ((!aM L f|| !decide (f.kind=3))=false->
                   true=true/\
                    true=true/\
                     true=true/\
                      dT L t.oid
                         {kind:=(aa L t).kind,count:=(aa L t).count,
                          calls:=(aa L t).calls,slots:=(aa L t).slots,
                          bytes:=(aa L f).bytes}=
                        cL L t f/\
                       cc L t.oid
                         {kind:=(aa L t).kind,count:=(aa L t).count,
                          calls:=(aa L t).calls,slots:=(aa L t).slots,
                          bytes:=(aa L f).bytes}=
                        e9 L t f))))):=by
 refine⟨rfl,fun h=>vR (FZ h) (by omega),fun h=>⟨fun h2=>vR (PY h h2) (by omega),fun h2=>⟨fun h3=>vR (R2 h h2 h3) (by omega),fun h3=>⟨rfl,fun h'=>?_,fun _=>⟨fun h5=>Lw (Q0 h h2 h3) (PY h h5) (by omega),fun h5=>?_⟩⟩⟩⟩⟩
 ·rw[h]at h';simp at h'
 ·obtain⟨b,c⟩:=Rb hL (nP h2).1 (nP h2).2 (Q0 h h2 h3) (nP h5).1 (Qj h h5);exact⟨rfl,rfl,rfl,b,c⟩
theorem N0 (L:List Sx.Obj) (t f:Key) (hL:an L):ai Tryz.prog 80 [.lp 0 0,.key t,.key f] [.store tS eS L] (zO (.it .i64 (cL L t f)) (e9 L t f)) (fun _ _=>False):=
 cg (inl:=(fun f=>f==143||f==145||f==148)) (ann:=aL) (ab aX (ab bp ak)) (aG c9 aA) (PG L t f hL) (by kernel_rfl)
theorem NI:ql Tryz.prog 80 QL:=
 lh (m:=fun x=> [.key x.1,.key x.2]) Du (fun _=>rfl) (fun _ _=>rfl) (fun x=>cg (inl:=(fun f=>f==143||f==145||f==148)) (ann:=aL) (ab aX (ab bp ak)) (aG c9 aA) (Lc x.1 x.2) (by kernel_rfl)) (fun x=>cg (inl:=(fun f=>f==143||f==145||f==148)) (ann:=aL) (ab aX (ab bp ak)) (aG c9 aA) (MF x.1 x.2) (by kernel_rfl)) fun L x hL _ _=>N0 L x.1 x.2 hL
end Go.Proofs.YtghpaegglbbocaaGreat
