import Derived.Test.YtghpaegglbbocaaGreatCN
import Derived.Test.YtghpaegglbbocaaGreatKS
import Derived.Test.YtghpaegglbbocaaGreatSpP
set_option linter.unusedSimpArgs false
set_option linter.unusedVariables false
namespace Go.Proofs.YtghpaegglbbocaaGreat
open Go.Sx
set_option maxRecDepth 100000
theorem GY (i n:Int):
 ((decide (0<=i)&&decide (0<=n)&&decide (i<=64))=true->aG IntKind.i64 (64-i))/\
   (decide (0<=i)&&decide (0<=n)&&decide (i<=64)&&decide (n<=64-i))=bZ i n:=by
 unfold bZ;refine⟨fun h=>?_,?_⟩
 ·simp only[Yo,Yp]at h;simp only[aG,bY];omega
 ·rfl
theorem nO:ck Tryz.prog 144 CH:=
 mo (fz .i64) (fz .i64) (fun _ _=>rfl) fun i n _ _=>aV (inl:=bn) (ann:=aP) ak (GY i n) (by kernel_rfl)
theorem DP (i n:Int):
 ((decide (0<=i)&&decide (0<=n)&&decide (i<=64)&&decide (n<=64))=true->aG IntKind.i64 (i+n))/\
   (decide (0<=i)&&decide (0<=n)&&decide (i<=64)&&decide (n<=64)&&decide (i+n<=64))=bZ i n:=by
 unfold bZ;refine⟨fun h=>?_,?_⟩
 ·simp only[Yo,Yp]at h;simp only[aG,bY]at *;omega
 ·rw[Bool.eq_iff_iff];simp only[Yo,Yp];omega
theorem rY:ck Tryz.prog 180 CH:=
 mo (fz .i64) (fz .i64) (fun _ _=>rfl) fun i n _ _=>aV (inl:=bn) (ann:=aP) ak (DP i n) (by kernel_rfl)
theorem Pn (L:List Sx.Obj) (k:Key) (c:Bool):
 ((decide (ay L k 3 false=0)&&c&& !decide (k.rights=0))=true->191=aS L k c)/\
   ((decide (ay L k 3 false=0)&&c&& !decide (k.rights=0))=false->ay L k 3 false=aS L k c):=by
 unfold aS;refine⟨fun h=>?_,fun h=>?_⟩
 ·simp only[Yo,Yp]at h;rw[Yv h.1.1,Yv (by rw[h.1.2,Bool.true_and];exact h.2)]
 ·split
  ·rename_i h1;rw[decide_eq_true h1,Bool.true_and]at h;rw[Yu (by rw[h];simp),h1]
  ·rfl
theorem uA:ck Tryz.prog 179 Tp:=
 eO (aJ ju (aJ gR (aJ E3 cF))) (fun _=>rfl) fun a hq hok=>by
  obtain⟨L,k,c,_⟩:=a;exact aV (inl:=bn) (ann:=aP) (ab od ak) (Pn L k c) (by kernel_rfl)
theorem HH (k:Key) (i n:Int):
 true=true/\
  (decide (an []=0)=true->(⟨#[]⟩:ByteArray)=dR [] k i n/\1=b6 [] k i n)/\
   (decide (an []=0)=false->
    ((!aU [] k|| !decide (k.kind=3))=true->
      (⟨#[]⟩:ByteArray)=dR [] k i n/\190=b6 [] k i n)/\
      ((!aU [] k|| !decide (k.kind=3))=false->
        ((!bZ i n)=true->(⟨#[]⟩:ByteArray)=dR [] k i n/\4=b6 [] k i n)/\
          ((!bZ i n)=false->
            aG IntKind.i64 (i+n)/\
             B5 i (i+n) 64/\
              Bn (aa [] k).bytes i.toNat (i+n).toNat=dR [] k i n/\0=b6 [] k i n))):=by
 refine⟨rfl,fun h=>qe (Jv h) (by omega),fun h=>⟨fun h2=>qe (UZ h h2) (by omega),fun h2=>⟨fun h3=>yx (Wg h h2) h3,fun h3=>?_⟩⟩⟩
 rw[(dC (p8 h2).1).2.2.2.1];exact wg (Wg h h2) h3
theorem NM (L:List Sx.Obj) (k:Key) (i n:Int):
 true=true/\
  (decide (an L=0)=true->(⟨#[]⟩:ByteArray)=dR L k i n/\1=b6 L k i n)/\
   (decide (an L=0)=false->
    ((!aU L k|| !decide (k.kind=3))=true->
      (⟨#[]⟩:ByteArray)=dR L k i n/\190=b6 L k i n)/\
      ((!aU L k|| !decide (k.kind=3))=false->
        ((!bZ i n)=true->(⟨#[]⟩:ByteArray)=dR L k i n/\4=b6 L k i n)/\
          ((!bZ i n)=false->
            aG IntKind.i64 (i+n)/\
             B5 i (i+n) 64/\
              Bn (aa L k).bytes i.toNat (i+n).toNat=dR L k i n/\0=b6 L k i n))):=by
 refine⟨rfl,fun h=>qe (Jv h) (by omega),fun h=>⟨fun h2=>qe (UZ h h2) (by omega),fun h2=>⟨fun h3=>yx (Wg h h2) h3,fun h3=>?_⟩⟩⟩
 rw[(dC (p8 h2).1).2.2.2.1];exact wg (Wg h h2) h3
theorem n7:ck Tryz.prog 142 QB:=
 eO (aJ tR (aJ gR (aJ ft (aJ ft cF)))) (fun _=>rfl) fun a hq hok=>by
  obtain⟨S,k,i,n,_⟩:=a;cases S with
  |none=>exact bp (inl:=(fun f=>f==143)) (ann:=aP) (ab bB (ab bL (ab nO ak))) aC (HH k i n) (by kernel_rfl)
  |some L=>exact bp (inl:=(fun f=>f==143)) (ann:=aP) (ab bB (ab bL (ab nO ak))) aC (NM L k i n) (by kernel_rfl)
end Go.Proofs.YtghpaegglbbocaaGreat
namespace Go.Proofs.YtghpaegglbbocaaGreat
open Go.Sx
set_option maxRecDepth 100000
theorem QI (k:Key) (i:Int) (s:ByteArray):
 true=true/\
  (decide (an []=0)=true->1=cq [] k i s)/\
   (decide (an []=0)=false->
    ((!aU [] k|| !decide (k.kind=3))=true->190=cq [] k i s)/\
      ((!aU [] k|| !decide (k.kind=3))=false->
        ((!decide (bd BinOp.and IntKind.i64 k.rights 1=0))=true->191=cq [] k i s)/\
          ((!decide (bd BinOp.and IntKind.i64 k.rights 1=0))=false->
            aG IntKind.i64 (bW s)/\
             ((!bZ i (bW s))=true->4=cq [] k i s)/\
               ((!bZ i (bW s))=false->
                 true=true/\
                  true=true/\
                   B5 i 64 64/\
                    true=true/\
                     eU [] k.oid
                       {kind:=(aa [] k).kind,count:=(aa [] k).count,
                        calls:=(aa [] k).calls,slots:=(aa [] k).slots,
                        bytes:=Sb (aa [] k).bytes i.toNat (Int.toNat 64) s}=
                      cq [] k i s)))):=by
 exact⟨rfl,fun h=>(uY (Jv h) (by omega)).1,fun h=>absurd h (by decide)⟩
theorem N8 (k:Key) (i:Int) (s:ByteArray):
 true=true/\
  (decide (an []=0)=true->1=cq [] k i s)/\
   (decide (an []=0)=false->
    ((!aU [] k|| !decide (k.kind=3))=true->190=cq [] k i s)/\
      ((!aU [] k|| !decide (k.kind=3))=false->
        ((!decide (bd BinOp.and IntKind.i64 k.rights 1=0))=true->191=cq [] k i s)/\
          ((!decide (bd BinOp.and IntKind.i64 k.rights 1=0))=false->
            aG IntKind.i64 (bW s)/\
             ((!bZ i (bW s))=true->4=cq [] k i s)/\
               ((!bZ i (bW s))=false->true=true/\true=true/\B5 i 64 64/\true=true/\False)))):=by
 exact⟨rfl,fun h=>(uY (Jv h) (by omega)).1,fun h=>absurd h (by decide)⟩
theorem Tj (L:List Sx.Obj) (k:Key) (i:Int) (s:ByteArray) (hL:aq L) (hs:aw s):
 true=true/\
  (decide (an L=0)=true->1=cq L k i s/\L=eg L k i s)/\
   (decide (an L=0)=false->
    ((!aU L k|| !decide (k.kind=3))=true->190=cq L k i s/\L=eg L k i s)/\
      ((!aU L k|| !decide (k.kind=3))=false->
        ((!decide (bd BinOp.and IntKind.i64 k.rights 1=0))=true->
          191=cq L k i s/\L=eg L k i s)/\
          ((!decide (bd BinOp.and IntKind.i64 k.rights 1=0))=false->
            aG IntKind.i64 (bW s)/\
             ((!bZ i (bW s))=true->4=cq L k i s/\L=eg L k i s)/\
               ((!bZ i (bW s))=false->
                 true=true/\
                  true=true/\
                   B5 i 64 64/\
                    true=true/\
                     eU L k.oid
                        {kind:=(aa L k).kind,count:=(aa L k).count,
                         calls:=(aa L k).calls,slots:=(aa L k).slots,
                         bytes:=Sb (aa L k).bytes i.toNat (Int.toNat 64) s}=
                       cq L k i s/\
                      cW L k.oid
                        {kind:=(aa L k).kind,count:=(aa L k).count,
                         calls:=(aa L k).calls,slots:=(aa L k).slots,
                         bytes:=Sb (aa L k).bytes i.toNat (Int.toNat 64) s}=
                       eg L k i s)))):=by
 refine⟨rfl,fun h=>uY (Jv h) (by omega),fun h=>⟨fun h2=>uY (UZ h h2) (by omega),fun h2=>⟨fun h3=>uY (Xk h h2 h3) (by omega),fun h3=>⟨?_,fun h4=>KX (U4 h h2 h3) h4,fun h4=>?_⟩⟩⟩⟩
 ·unfold aw at hs;simp only[aG,bY,bW];omega
 ·obtain⟨a,b,c⟩:=Wy hL (p8 h2).1 (p8 h2).2 (U4 h h2 h3) h4;exact⟨rfl,rfl,a,rfl,b,c⟩
theorem Sq (L:List Sx.Obj) (k:Key) (i:Int) (s:ByteArray) (hL:aq L) (hs:aw s):ai Tryz.prog 76 [.lp 0 0,.key k,.it .i64 i,.st s] [.store tS eS L] (B8 (.it .i64 (cq L k i s)) (eg L k i s)) (fun _ _=>False):=
 bp (inl:=(fun f=>f==143||f==145||f==146)) (ann:=aP) (ab bB (ab bL (ab nO ak))) (aD dO aC) (Tj L k i s hL hs) (by kernel_rfl)
theorem AZ:lG Tryz.prog 76 Wa:=
 mg (m:=fun x=> [.key x.1,.it .i64 x.2.1,.st x.2.2]) s5 (fun _=>rfl) (fun _ _=>rfl) (fun x=>bp (inl:=(fun f=>f==143||f==145||f==146)) (ann:=aP) (ab bB (ab bL (ab nO ak))) (aD dO aC) (QI x.1 x.2.1 x.2.2) (by kernel_rfl)) (fun x=>bp (inl:=(fun f=>f==143||f==145||f==146)) (ann:=aP) (ab bB (ab bL (ab nO ak))) (aD dO aC) (N8 x.1 x.2.1 x.2.2) (by kernel_rfl)) fun L x hL _ _=>Sq L x.1 x.2.1 x.2.2 hL.1 hL.2
theorem Lh (k:Key):
 true=true/\
  (decide (an []=0)=true->1=aS [] k true)/\
   (decide (an []=0)=false->
    ((!aU [] k|| !decide (k.kind=3))=true->190=aS [] k true)/\
      ((!aU [] k|| !decide (k.kind=3))=false->
        ((!decide (bd BinOp.and IntKind.i64 k.rights 1=0))=true->191=aS [] k true)/\
          ((!decide (bd BinOp.and IntKind.i64 k.rights 1=0))=false->
            true=true/\
             true=true/\
              B5 0 64 64/\
               true=true/\
                eU [] k.oid
                  {kind:=(aa [] k).kind,count:=(aa [] k).count,calls:=(aa [] k).calls,
                   slots:=(aa [] k).slots,
                   bytes:=Cy (aa [] k).bytes (Int.toNat 0) (Int.toNat 64)}=
                 aS [] k true))):=by
 exact⟨rfl,fun h=>(yR (Jv h) (by omega)).1,fun h=>absurd h (by decide)⟩
theorem IM (k:Key):
 true=true/\
  (decide (an []=0)=true->1=aS [] k true)/\
   (decide (an []=0)=false->
    ((!aU [] k|| !decide (k.kind=3))=true->190=aS [] k true)/\
      ((!aU [] k|| !decide (k.kind=3))=false->
        ((!decide (bd BinOp.and IntKind.i64 k.rights 1=0))=true->191=aS [] k true)/\
          ((!decide (bd BinOp.and IntKind.i64 k.rights 1=0))=false->
            true=true/\true=true/\B5 0 64 64/\true=true/\False))):=by
 exact⟨rfl,fun h=>(yR (Jv h) (by omega)).1,fun h=>absurd h (by decide)⟩
theorem N5 (L:List Sx.Obj) (k:Key) (hL:aq L):
 true=true/\
  (decide (an L=0)=true->1=aS L k true/\L=eD L k)/\
   (decide (an L=0)=false->
    ((!aU L k|| !decide (k.kind=3))=true->190=aS L k true/\L=eD L k)/\
      ((!aU L k|| !decide (k.kind=3))=false->
        ((!decide (bd BinOp.and IntKind.i64 k.rights 1=0))=true->191=aS L k true/\L=eD L k)/\
          ((!decide (bd BinOp.and IntKind.i64 k.rights 1=0))=false->
            true=true/\
             true=true/\
              B5 0 64 64/\
               true=true/\
                eU L k.oid
                   {kind:=(aa L k).kind,count:=(aa L k).count,calls:=(aa L k).calls,
                    slots:=(aa L k).slots,
                    bytes:=Cy (aa L k).bytes (Int.toNat 0) (Int.toNat 64)}=
                  aS L k true/\
                 cW L k.oid
                   {kind:=(aa L k).kind,count:=(aa L k).count,calls:=(aa L k).calls,
                    slots:=(aa L k).slots,
                    bytes:=Cy (aa L k).bytes (Int.toNat 0) (Int.toNat 64)}=
                  eD L k))):=by
 refine⟨rfl,fun h=>yR (Jv h) (by omega),fun h=>⟨fun h2=>yR (UZ h h2) (by omega),fun h2=>⟨fun h3=>yR (Xk h h2 h3) (by omega),fun h3=>?_⟩⟩⟩
 obtain⟨a,b,c⟩:=VY hL (p8 h2).1 (p8 h2).2 (U4 h h2 h3);exact⟨rfl,rfl,a,rfl,b,c⟩
theorem QH (L:List Sx.Obj) (k:Key) (hL:aq L):ai Tryz.prog 78 [.lp 0 0,.key k] [.store tS eS L] (B8 (.it .i64 (aS L k true)) (eD L k)) (fun _ _=>False):=
 bp (inl:=(fun f=>f==143||f==145||f==147)) (ann:=aP) (ab bB (ab bL ak)) (aD dO aC) (N5 L k hL) (by kernel_rfl)
theorem O0:lG Tryz.prog 78 UM:=
 mg (m:=fun x=> [.key x]) K5 (fun _=>rfl) (fun _ _=>rfl) (fun x=>bp (inl:=(fun f=>f==143||f==145||f==147)) (ann:=aP) (ab bB (ab bL ak)) (aD dO aC) (Lh x) (by kernel_rfl)) (fun x=>bp (inl:=(fun f=>f==143||f==145||f==147)) (ann:=aP) (ab bB (ab bL ak)) (aD dO aC) (IM x) (by kernel_rfl)) fun L x hL _ _=>QH L x hL
theorem Rj (t f:Key):
 true=true/\
  (decide (an []=0)=true->1=cx [] t f)/\
   (decide (an []=0)=false->
    ((!aU [] t|| !decide (t.kind=3))=true->190=cx [] t f)/\
      ((!aU [] t|| !decide (t.kind=3))=false->
        ((!decide (bd BinOp.and IntKind.i64 t.rights 1=0))=true->191=cx [] t f)/\
          ((!decide (bd BinOp.and IntKind.i64 t.rights 1=0))=false->
            true=true/\
             (decide (an []=0)=true->1=cx [] t f)/\
              (decide (an []=0)=false->
               ((!aU [] f|| !decide (f.kind=3))=true->190=cx [] t f)/\
                 ((!aU [] f|| !decide (f.kind=3))=false->
                   true=true/\
                    true=true/\
                     true=true/\
                      eU [] t.oid
                        {kind:=(aa [] t).kind,count:=(aa [] t).count,
                         calls:=(aa [] t).calls,slots:=(aa [] t).slots,
                         bytes:=(aa [] f).bytes}=
                       cx [] t f))))):=by
 exact⟨rfl,fun h=>(uI (Jv h) (by omega)).1,fun h=>absurd h (by decide)⟩
theorem PI (t f:Key):
 true=true/\
  (decide (an []=0)=true->1=cx [] t f)/\
   (decide (an []=0)=false->
    ((!aU [] t|| !decide (t.kind=3))=true->190=cx [] t f)/\
      ((!aU [] t|| !decide (t.kind=3))=false->
        ((!decide (bd BinOp.and IntKind.i64 t.rights 1=0))=true->191=cx [] t f)/\
          ((!decide (bd BinOp.and IntKind.i64 t.rights 1=0))=false->
            true=true/\
             (decide (an []=0)=true->1=cx [] t f)/\
              (decide (an []=0)=false->
               ((!aU [] f|| !decide (f.kind=3))=true->190=cx [] t f)/\
                 ((!aU [] f|| !decide (f.kind=3))=false->
                   true=true/\true=true/\true=true/\False))))):=by
 exact⟨rfl,fun h=>(uI (Jv h) (by omega)).1,fun h=>absurd h (by decide)⟩
theorem Tt (L:List Sx.Obj) (t f:Key) (hL:aq L):
 true=true/\
  (decide (an L=0)=true->1=cx L t f/\L=eX L t f)/\
   (decide (an L=0)=false->
    ((!aU L t|| !decide (t.kind=3))=true->190=cx L t f/\L=eX L t f)/\
      ((!aU L t|| !decide (t.kind=3))=false->
        ((!decide (bd BinOp.and IntKind.i64 t.rights 1=0))=true->191=cx L t f/\L=eX L t f)/\
          ((!decide (bd BinOp.and IntKind.i64 t.rights 1=0))=false->
            true=true/\
             (decide (an L=0)=true->1=cx L t f/\L=eX L t f)/\
              (decide (an L=0)=false->
               ((!aU L f|| !decide (f.kind=3))=true->190=cx L t f/\L=eX L t f)/\
                 ((!aU L f|| !decide (f.kind=3))=false->
                   true=true/\
                    true=true/\
                     true=true/\
                      eU L t.oid
                         {kind:=(aa L t).kind,count:=(aa L t).count,
                          calls:=(aa L t).calls,slots:=(aa L t).slots,
                          bytes:=(aa L f).bytes}=
                        cx L t f/\
                       cW L t.oid
                         {kind:=(aa L t).kind,count:=(aa L t).count,
                          calls:=(aa L t).calls,slots:=(aa L t).slots,
                          bytes:=(aa L f).bytes}=
                        eX L t f))))):=by
 refine⟨rfl,fun h=>uI (Jv h) (by omega),fun h=>⟨fun h2=>uI (UZ h h2) (by omega),fun h2=>⟨fun h3=>uI (Xk h h2 h3) (by omega),fun h3=>⟨rfl,fun h'=>?_,fun _=>⟨fun h5=>FB (U4 h h2 h3) (UZ h h5) (by omega),fun h5=>?_⟩⟩⟩⟩⟩
 ·rw[h]at h';simp at h'
 ·obtain⟨b,c⟩:=Vl hL (p8 h2).1 (p8 h2).2 (U4 h h2 h3) (p8 h5).1 (Wg h h5);exact⟨rfl,rfl,rfl,b,c⟩
theorem SR (L:List Sx.Obj) (t f:Key) (hL:aq L):ai Tryz.prog 80 [.lp 0 0,.key t,.key f] [.store tS eS L] (B8 (.it .i64 (cx L t f)) (eX L t f)) (fun _ _=>False):=
 bp (inl:=(fun f=>f==143||f==145||f==148)) (ann:=aP) (ab bB (ab bL ak)) (aD dO aC) (Tt L t f hL) (by kernel_rfl)
theorem SV:lG Tryz.prog 80 VB:=
 mg (m:=fun x=> [.key x.1,.key x.2]) FW (fun _=>rfl) (fun _ _=>rfl) (fun x=>bp (inl:=(fun f=>f==143||f==145||f==148)) (ann:=aP) (ab bB (ab bL ak)) (aD dO aC) (Rj x.1 x.2) (by kernel_rfl)) (fun x=>bp (inl:=(fun f=>f==143||f==145||f==148)) (ann:=aP) (ab bB (ab bL ak)) (aD dO aC) (PI x.1 x.2) (by kernel_rfl)) fun L x hL _ _=>SR L x.1 x.2 hL
end Go.Proofs.YtghpaegglbbocaaGreat
