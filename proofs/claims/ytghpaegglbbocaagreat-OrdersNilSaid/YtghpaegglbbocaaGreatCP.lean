import Derived.Test.YtghpaegglbbocaaGreatCN
import Derived.Test.YtghpaegglbbocaaGreatKS
import Derived.Test.YtghpaegglbbocaaGreatSpP
namespace Go.Proofs.YtghpaegglbbocaaGreat
open Go.Sx
set_option maxRecDepth 100000
theorem HT (i n:Int):
 ((decide (0<=i)&&decide (0<=n)&&decide (i<=64))=true->aG IntKind.i64 (64-i))/\
   (decide (0<=i)&&decide (0<=n)&&decide (i<=64)&&decide (n<=64-i))=bZ i n:=by
 unfold bZ;refine⟨fun h=>?_,?_⟩
 ·simp only[Yj,Yk]at h;simp only[aG,bY];omega
 ·rfl
theorem nZ:ck Tryz.prog 144 C4:=
 mj (fy .i64) (fy .i64) (fun _ _=>rfl) fun i n _ _=>aV (inl:=bp) (ann:=aP) ak (HT i n) (by kernel_rfl)
theorem Ea (i n:Int):
 ((decide (0<=i)&&decide (0<=n)&&decide (i<=64)&&decide (n<=64))=true->aG IntKind.i64 (i+n))/\
   (decide (0<=i)&&decide (0<=n)&&decide (i<=64)&&decide (n<=64)&&decide (i+n<=64))=bZ i n:=by
 unfold bZ;refine⟨fun h=>?_,?_⟩
 ·simp only[Yj,Yk]at h;simp only[aG,bY]at *;omega
 ·rw[Bool.eq_iff_iff];simp only[Yj,Yk];omega
theorem r8:ck Tryz.prog 180 C4:=
 mj (fy .i64) (fy .i64) (fun _ _=>rfl) fun i n _ _=>aV (inl:=bp) (ann:=aP) ak (Ea i n) (by kernel_rfl)
theorem P4 (L:List Sx.Obj) (k:Key) (c:Bool):
 ((decide (ay L k 3 false=0)&&c&& !decide (k.rights=0))=true->191=aS L k c)/\
   ((decide (ay L k 3 false=0)&&c&& !decide (k.rights=0))=false->ay L k 3 false=aS L k c):=by
 unfold aS;refine⟨fun h=>?_,fun h=>?_⟩
 ·simp only[Yj,Yk]at h;rw[Yq h.1.1,Yq (by rw[h.1.2,Bool.true_and];exact h.2)]
 ·split
  ·rename_i h1;rw[decide_eq_true h1,Bool.true_and]at h;rw[Yp (by rw[h];simp),h1]
  ·rfl
theorem sS:ck Tryz.prog 179 Ta:=
 eW (aJ js (aJ gQ (aJ Gs cF))) (fun _=>rfl) fun a hq hok=>by
  obtain⟨L,k,c,_⟩:=a;exact aV (inl:=bp) (ann:=aP) (ab nP ak) (P4 L k c) (by kernel_rfl)
theorem G3 (k:Key) (i n:Int):
 true=true/\
  (decide (an []=0)=true->(⟨#[]⟩:ByteArray)=dP [] k i n/\1=b7 [] k i n)/\
   (decide (an []=0)=false->
    ((!aU [] k|| !decide (k.kind=3))=true->
      (⟨#[]⟩:ByteArray)=dP [] k i n/\190=b7 [] k i n)/\
      ((!aU [] k|| !decide (k.kind=3))=false->
        ((!bZ i n)=true->(⟨#[]⟩:ByteArray)=dP [] k i n/\4=b7 [] k i n)/\
          ((!bZ i n)=false->
            aG IntKind.i64 (i+n)/\
             C5 i (i+n) 64/\
              BH (aa [] k).bytes i.toNat (i+n).toNat=dP [] k i n/\0=b7 [] k i n))):=by
 refine⟨rfl,fun h=>p6 (Ku h) (by omega),fun h=>⟨fun h2=>p6 (UQ h h2) (by omega),fun h2=>⟨fun h3=>xY (Wt h h2) h3,fun h3=>?_⟩⟩⟩
 rw[(dz (pT h2).1).2.2.2.1];exact wj (Wt h h2) h3
theorem Mj (L:List Sx.Obj) (k:Key) (i n:Int):
 true=true/\
  (decide (an L=0)=true->(⟨#[]⟩:ByteArray)=dP L k i n/\1=b7 L k i n)/\
   (decide (an L=0)=false->
    ((!aU L k|| !decide (k.kind=3))=true->
      (⟨#[]⟩:ByteArray)=dP L k i n/\190=b7 L k i n)/\
      ((!aU L k|| !decide (k.kind=3))=false->
        ((!bZ i n)=true->(⟨#[]⟩:ByteArray)=dP L k i n/\4=b7 L k i n)/\
          ((!bZ i n)=false->
            aG IntKind.i64 (i+n)/\
             C5 i (i+n) 64/\
              BH (aa L k).bytes i.toNat (i+n).toNat=dP L k i n/\0=b7 L k i n))):=by
 refine⟨rfl,fun h=>p6 (Ku h) (by omega),fun h=>⟨fun h2=>p6 (UQ h h2) (by omega),fun h2=>⟨fun h3=>xY (Wt h h2) h3,fun h3=>?_⟩⟩⟩
 rw[(dz (pT h2).1).2.2.2.1];exact wj (Wt h h2) h3
theorem om:ck Tryz.prog 142 PH:=
 eW (aJ sZ (aJ gQ (aJ fm (aJ fm cF)))) (fun _=>rfl) fun a hq hok=>by
  obtain⟨S,k,i,n,_⟩:=a;cases S with
  |none=>exact bn (inl:=(fun f=>f==143)) (ann:=aP) (ab bB (ab bL (ab nZ ak))) aC (G3 k i n) (by kernel_rfl)
  |some L=>exact bn (inl:=(fun f=>f==143)) (ann:=aP) (ab bB (ab bL (ab nZ ak))) aC (Mj L k i n) (by kernel_rfl)
end Go.Proofs.YtghpaegglbbocaaGreat
namespace Go.Proofs.YtghpaegglbbocaaGreat
open Go.Sx
set_option maxRecDepth 100000
theorem Pr (k:Key) (i:Int) (s:ByteArray):
 true=true/\
  (decide (an []=0)=true->1=cq [] k i s)/\
   (decide (an []=0)=false->
    ((!aU [] k|| !decide (k.kind=3))=true->190=cq [] k i s)/\
      ((!aU [] k|| !decide (k.kind=3))=false->
        ((!decide (bc BinOp.and IntKind.i64 k.rights 1=0))=true->191=cq [] k i s)/\
          ((!decide (bc BinOp.and IntKind.i64 k.rights 1=0))=false->
            aG IntKind.i64 (bW s)/\
             ((!bZ i (bW s))=true->4=cq [] k i s)/\
               ((!bZ i (bW s))=false->
                 true=true/\
                  true=true/\
                   C5 i 64 64/\
                    true=true/\
                     eU [] k.oid
                       {kind:=(aa [] k).kind,count:=(aa [] k).count,
                        calls:=(aa [] k).calls,slots:=(aa [] k).slots,
                        bytes:=R8 (aa [] k).bytes i.toNat (Int.toNat 64) s}=
                      cq [] k i s)))):=by
 exact⟨rfl,fun h=>(uS (Ku h) (by omega)).1,fun h=>absurd h (by decide)⟩
theorem Qi (k:Key) (i:Int) (s:ByteArray):
 true=true/\
  (decide (an []=0)=true->1=cq [] k i s)/\
   (decide (an []=0)=false->
    ((!aU [] k|| !decide (k.kind=3))=true->190=cq [] k i s)/\
      ((!aU [] k|| !decide (k.kind=3))=false->
        ((!decide (bc BinOp.and IntKind.i64 k.rights 1=0))=true->191=cq [] k i s)/\
          ((!decide (bc BinOp.and IntKind.i64 k.rights 1=0))=false->
            aG IntKind.i64 (bW s)/\
             ((!bZ i (bW s))=true->4=cq [] k i s)/\
               ((!bZ i (bW s))=false->true=true/\true=true/\C5 i 64 64/\true=true/\False)))):=by
 exact⟨rfl,fun h=>(uS (Ku h) (by omega)).1,fun h=>absurd h (by decide)⟩
theorem SZ (L:List Sx.Obj) (k:Key) (i:Int) (s:ByteArray) (hL:aq L) (hs:aw s):
 true=true/\
  (decide (an L=0)=true->1=cq L k i s/\L=eh L k i s)/\
   (decide (an L=0)=false->
    ((!aU L k|| !decide (k.kind=3))=true->190=cq L k i s/\L=eh L k i s)/\
      ((!aU L k|| !decide (k.kind=3))=false->
        ((!decide (bc BinOp.and IntKind.i64 k.rights 1=0))=true->
          191=cq L k i s/\L=eh L k i s)/\
          ((!decide (bc BinOp.and IntKind.i64 k.rights 1=0))=false->
            aG IntKind.i64 (bW s)/\
             ((!bZ i (bW s))=true->4=cq L k i s/\L=eh L k i s)/\
               ((!bZ i (bW s))=false->
                 true=true/\
                  true=true/\
                   C5 i 64 64/\
                    true=true/\
                     eU L k.oid
                        {kind:=(aa L k).kind,count:=(aa L k).count,
                         calls:=(aa L k).calls,slots:=(aa L k).slots,
                         bytes:=R8 (aa L k).bytes i.toNat (Int.toNat 64) s}=
                       cq L k i s/\
                      cW L k.oid
                        {kind:=(aa L k).kind,count:=(aa L k).count,
                         calls:=(aa L k).calls,slots:=(aa L k).slots,
                         bytes:=R8 (aa L k).bytes i.toNat (Int.toNat 64) s}=
                       eh L k i s)))):=by
 refine⟨rfl,fun h=>uS (Ku h) (by omega),fun h=>⟨fun h2=>uS (UQ h h2) (by omega),fun h2=>⟨fun h3=>uS (Xh h h2 h3) (by omega),fun h3=>⟨?_,fun h4=>LZ (VY h h2 h3) h4,fun h4=>?_⟩⟩⟩⟩
 ·unfold aw at hs;simp only[aG,bY,bW];omega
 ·obtain⟨a,b,c⟩:=Ve hL (pT h2).1 (pT h2).2 (VY h h2 h3) h4;exact⟨rfl,rfl,a,rfl,b,c⟩
theorem Uu (L:List Sx.Obj) (k:Key) (i:Int) (s:ByteArray) (hL:aq L) (hs:aw s):aj Tryz.prog 76 [.lp 0 0,.key k,.it .i64 i,.st s] [.store tS eS L] (Cn (.it .i64 (cq L k i s)) (eh L k i s)) (fun _ _=>False):=
 bn (inl:=(fun f=>f==143||f==145||f==146)) (ann:=aP) (ab bB (ab bL (ab nZ ak))) (aD dO aC) (SZ L k i s hL hs) (by kernel_rfl)
theorem Bu:lA Tryz.prog 76 VJ:=
 mD (m:=fun x=> [.key x.1,.it .i64 x.2.1,.st x.2.2]) tX (fun _=>rfl) (fun _ _=>rfl) (fun x=>bn (inl:=(fun f=>f==143||f==145||f==146)) (ann:=aP) (ab bB (ab bL (ab nZ ak))) (aD dO aC) (Pr x.1 x.2.1 x.2.2) (by kernel_rfl)) (fun x=>bn (inl:=(fun f=>f==143||f==145||f==146)) (ann:=aP) (ab bB (ab bL (ab nZ ak))) (aD dO aC) (Qi x.1 x.2.1 x.2.2) (by kernel_rfl)) fun L x hL _ _=>Uu L x.1 x.2.1 x.2.2 hL.1 hL.2
theorem Jc (k:Key):
 true=true/\
  (decide (an []=0)=true->1=aS [] k true)/\
   (decide (an []=0)=false->
    ((!aU [] k|| !decide (k.kind=3))=true->190=aS [] k true)/\
      ((!aU [] k|| !decide (k.kind=3))=false->
        ((!decide (bc BinOp.and IntKind.i64 k.rights 1=0))=true->191=aS [] k true)/\
          ((!decide (bc BinOp.and IntKind.i64 k.rights 1=0))=false->
            true=true/\
             true=true/\
              C5 0 64 64/\
               true=true/\
                eU [] k.oid
                  {kind:=(aa [] k).kind,count:=(aa [] k).count,calls:=(aa [] k).calls,
                   slots:=(aa [] k).slots,
                   bytes:=DB (aa [] k).bytes (Int.toNat 0) (Int.toNat 64)}=
                 aS [] k true))):=by
 exact⟨rfl,fun h=>(xw (Ku h) (by omega)).1,fun h=>absurd h (by decide)⟩
theorem JQ (k:Key):
 true=true/\
  (decide (an []=0)=true->1=aS [] k true)/\
   (decide (an []=0)=false->
    ((!aU [] k|| !decide (k.kind=3))=true->190=aS [] k true)/\
      ((!aU [] k|| !decide (k.kind=3))=false->
        ((!decide (bc BinOp.and IntKind.i64 k.rights 1=0))=true->191=aS [] k true)/\
          ((!decide (bc BinOp.and IntKind.i64 k.rights 1=0))=false->
            true=true/\true=true/\C5 0 64 64/\true=true/\False))):=by
 exact⟨rfl,fun h=>(xw (Ku h) (by omega)).1,fun h=>absurd h (by decide)⟩
theorem Ow (L:List Sx.Obj) (k:Key) (hL:aq L):
 true=true/\
  (decide (an L=0)=true->1=aS L k true/\L=eD L k)/\
   (decide (an L=0)=false->
    ((!aU L k|| !decide (k.kind=3))=true->190=aS L k true/\L=eD L k)/\
      ((!aU L k|| !decide (k.kind=3))=false->
        ((!decide (bc BinOp.and IntKind.i64 k.rights 1=0))=true->191=aS L k true/\L=eD L k)/\
          ((!decide (bc BinOp.and IntKind.i64 k.rights 1=0))=false->
            true=true/\
             true=true/\
              C5 0 64 64/\
               true=true/\
                eU L k.oid
                   {kind:=(aa L k).kind,count:=(aa L k).count,calls:=(aa L k).calls,
                    slots:=(aa L k).slots,
                    bytes:=DB (aa L k).bytes (Int.toNat 0) (Int.toNat 64)}=
                  aS L k true/\
                 cW L k.oid
                   {kind:=(aa L k).kind,count:=(aa L k).count,calls:=(aa L k).calls,
                    slots:=(aa L k).slots,
                    bytes:=DB (aa L k).bytes (Int.toNat 0) (Int.toNat 64)}=
                  eD L k))):=by
 refine⟨rfl,fun h=>xw (Ku h) (by omega),fun h=>⟨fun h2=>xw (UQ h h2) (by omega),fun h2=>⟨fun h3=>xw (Xh h h2 h3) (by omega),fun h3=>?_⟩⟩⟩
 obtain⟨a,b,c⟩:=Vz hL (pT h2).1 (pT h2).2 (VY h h2 h3);exact⟨rfl,rfl,a,rfl,b,c⟩
theorem PO (L:List Sx.Obj) (k:Key) (hL:aq L):aj Tryz.prog 78 [.lp 0 0,.key k] [.store tS eS L] (Cn (.it .i64 (aS L k true)) (eD L k)) (fun _ _=>False):=
 bn (inl:=(fun f=>f==143||f==145||f==147)) (ann:=aP) (ab bB (ab bL ak)) (aD dO aC) (Ow L k hL) (by kernel_rfl)
theorem O1:lA Tryz.prog 78 Sf:=
 mD (m:=fun x=> [.key x]) KZ (fun _=>rfl) (fun _ _=>rfl) (fun x=>bn (inl:=(fun f=>f==143||f==145||f==147)) (ann:=aP) (ab bB (ab bL ak)) (aD dO aC) (Jc x) (by kernel_rfl)) (fun x=>bn (inl:=(fun f=>f==143||f==145||f==147)) (ann:=aP) (ab bB (ab bL ak)) (aD dO aC) (JQ x) (by kernel_rfl)) fun L x hL _ _=>PO L x hL
theorem QC (t f:Key):
 true=true/\
  (decide (an []=0)=true->1=cz [] t f)/\
   (decide (an []=0)=false->
    ((!aU [] t|| !decide (t.kind=3))=true->190=cz [] t f)/\
      ((!aU [] t|| !decide (t.kind=3))=false->
        ((!decide (bc BinOp.and IntKind.i64 t.rights 1=0))=true->191=cz [] t f)/\
          ((!decide (bc BinOp.and IntKind.i64 t.rights 1=0))=false->
            true=true/\
             (decide (an []=0)=true->1=cz [] t f)/\
              (decide (an []=0)=false->
               ((!aU [] f|| !decide (f.kind=3))=true->190=cz [] t f)/\
                 ((!aU [] f|| !decide (f.kind=3))=false->
                   true=true/\
                    true=true/\
                     true=true/\
                      eU [] t.oid
                        {kind:=(aa [] t).kind,count:=(aa [] t).count,
                         calls:=(aa [] t).calls,slots:=(aa [] t).slots,
                         bytes:=(aa [] f).bytes}=
                       cz [] t f))))):=by
 exact⟨rfl,fun h=>(uz (Ku h) (by omega)).1,fun h=>absurd h (by decide)⟩
theorem QQ (t f:Key):
 true=true/\
  (decide (an []=0)=true->1=cz [] t f)/\
   (decide (an []=0)=false->
    ((!aU [] t|| !decide (t.kind=3))=true->190=cz [] t f)/\
      ((!aU [] t|| !decide (t.kind=3))=false->
        ((!decide (bc BinOp.and IntKind.i64 t.rights 1=0))=true->191=cz [] t f)/\
          ((!decide (bc BinOp.and IntKind.i64 t.rights 1=0))=false->
            true=true/\
             (decide (an []=0)=true->1=cz [] t f)/\
              (decide (an []=0)=false->
               ((!aU [] f|| !decide (f.kind=3))=true->190=cz [] t f)/\
                 ((!aU [] f|| !decide (f.kind=3))=false->
                   true=true/\true=true/\true=true/\False))))):=by
 exact⟨rfl,fun h=>(uz (Ku h) (by omega)).1,fun h=>absurd h (by decide)⟩
theorem So (L:List Sx.Obj) (t f:Key) (hL:aq L):
 true=true/\
  (decide (an L=0)=true->1=cz L t f/\L=eV L t f)/\
   (decide (an L=0)=false->
    ((!aU L t|| !decide (t.kind=3))=true->190=cz L t f/\L=eV L t f)/\
      ((!aU L t|| !decide (t.kind=3))=false->
        ((!decide (bc BinOp.and IntKind.i64 t.rights 1=0))=true->191=cz L t f/\L=eV L t f)/\
          ((!decide (bc BinOp.and IntKind.i64 t.rights 1=0))=false->
            true=true/\
             (decide (an L=0)=true->1=cz L t f/\L=eV L t f)/\
              (decide (an L=0)=false->
               ((!aU L f|| !decide (f.kind=3))=true->190=cz L t f/\L=eV L t f)/\
                 ((!aU L f|| !decide (f.kind=3))=false->
                   true=true/\
                    true=true/\
                     true=true/\
                      eU L t.oid
                         {kind:=(aa L t).kind,count:=(aa L t).count,
                          calls:=(aa L t).calls,slots:=(aa L t).slots,
                          bytes:=(aa L f).bytes}=
                        cz L t f/\
                       cW L t.oid
                         {kind:=(aa L t).kind,count:=(aa L t).count,
                          calls:=(aa L t).calls,slots:=(aa L t).slots,
                          bytes:=(aa L f).bytes}=
                        eV L t f))))):=by
 refine⟨rfl,fun h=>uz (Ku h) (by omega),fun h=>⟨fun h2=>uz (UQ h h2) (by omega),fun h2=>⟨fun h3=>uz (Xh h h2 h3) (by omega),fun h3=>⟨rfl,fun h'=>?_,fun _=>⟨fun h5=>Ge (VY h h2 h3) (UQ h h5) (by omega),fun h5=>?_⟩⟩⟩⟩⟩
 ·rw[h]at h';simp at h'
 ·obtain⟨b,c⟩:=U8 hL (pT h2).1 (pT h2).2 (VY h h2 h3) (pT h5).1 (Wt h h5);exact⟨rfl,rfl,rfl,b,c⟩
theorem Ue (L:List Sx.Obj) (t f:Key) (hL:aq L):aj Tryz.prog 80 [.lp 0 0,.key t,.key f] [.store tS eS L] (Cn (.it .i64 (cz L t f)) (eV L t f)) (fun _ _=>False):=
 bn (inl:=(fun f=>f==143||f==145||f==148)) (ann:=aP) (ab bB (ab bL ak)) (aD dO aC) (So L t f hL) (by kernel_rfl)
theorem Td:lA Tryz.prog 80 Wn:=
 mD (m:=fun x=> [.key x.1,.key x.2]) Gm (fun _=>rfl) (fun _ _=>rfl) (fun x=>bn (inl:=(fun f=>f==143||f==145||f==148)) (ann:=aP) (ab bB (ab bL ak)) (aD dO aC) (QC x.1 x.2) (by kernel_rfl)) (fun x=>bn (inl:=(fun f=>f==143||f==145||f==148)) (ann:=aP) (ab bB (ab bL ak)) (aD dO aC) (QQ x.1 x.2) (by kernel_rfl)) fun L x hL _ _=>Ue L x.1 x.2 hL
end Go.Proofs.YtghpaegglbbocaaGreat
