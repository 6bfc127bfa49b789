import Derived.Test.YtghpaegglbbocaaGreatCN
import Derived.Test.YtghpaegglbbocaaGreatKS
import Derived.Test.YtghpaegglbbocaaGreatSpP
set_option linter.unusedSimpArgs false
set_option linter.unusedVariables false
namespace Go.Proofs.YtghpaegglbbocaaGreat
open Go.Sx
set_option maxRecDepth 100000
theorem HU (i n:Int):
 ((decide (0<=i)&&decide (0<=n)&&decide (i<=64))=true->aG IntKind.i64 (64-i))/\
   (decide (0<=i)&&decide (0<=n)&&decide (i<=64)&&decide (n<=64-i))=bZ i n:=by
 unfold bZ;refine⟨fun h=>?_,?_⟩
 ·simp only[Yj,Yk]at h;simp only[aG,bY];omega
 ·rfl
theorem nQ:ck Tryz.prog 144 BV:=
 mf (fy .i64) (fy .i64) (fun _ _=>rfl) fun i n _ _=>aV (inl:=bp) (ann:=aP) ak (HU i n) (by kernel_rfl)
theorem Em (i n:Int):
 ((decide (0<=i)&&decide (0<=n)&&decide (i<=64)&&decide (n<=64))=true->aG IntKind.i64 (i+n))/\
   (decide (0<=i)&&decide (0<=n)&&decide (i<=64)&&decide (n<=64)&&decide (i+n<=64))=bZ i n:=by
 unfold bZ;refine⟨fun h=>?_,?_⟩
 ·simp only[Yj,Yk]at h;simp only[aG,bY]at *;omega
 ·rw[Bool.eq_iff_iff];simp only[Yj,Yk];omega
theorem rP:ck Tryz.prog 180 BV:=
 mf (fy .i64) (fy .i64) (fun _ _=>rfl) fun i n _ _=>aV (inl:=bp) (ann:=aP) ak (Em i n) (by kernel_rfl)
theorem Qu (L:List Sx.Obj) (k:Key) (c:Bool):
 ((decide (ay L k 3 false=0)&&c&& !decide (k.rights=0))=true->191=aS L k c)/\
   ((decide (ay L k 3 false=0)&&c&& !decide (k.rights=0))=false->ay L k 3 false=aS L k c):=by
 unfold aS;refine⟨fun h=>?_,fun h=>?_⟩
 ·simp only[Yj,Yk]at h;rw[Yq h.1.1,Yq (by rw[h.1.2,Bool.true_and];exact h.2)]
 ·split
  ·rename_i h1;rw[decide_eq_true h1,Bool.true_and]at h;rw[Yp (by rw[h];simp),h1]
  ·rfl
theorem uk:ck Tryz.prog 179 SE:=
 eP (aJ js (aJ gQ (aJ E6 cF))) (fun _=>rfl) fun a hq hok=>by
  obtain⟨L,k,c,_⟩:=a;exact aV (inl:=bp) (ann:=aP) (ab oi ak) (Qu L k c) (by kernel_rfl)
theorem Hx (k:Key) (i n:Int):
 true=true/\
  (decide (an []=0)=true->(⟨#[]⟩:ByteArray)=dQ [] k i n/\1=b7 [] k i n)/\
   (decide (an []=0)=false->
    ((!aU [] k|| !decide (k.kind=3))=true->
      (⟨#[]⟩:ByteArray)=dQ [] k i n/\190=b7 [] k i n)/\
      ((!aU [] k|| !decide (k.kind=3))=false->
        ((!bZ i n)=true->(⟨#[]⟩:ByteArray)=dQ [] k i n/\4=b7 [] k i n)/\
          ((!bZ i n)=false->
            aG IntKind.i64 (i+n)/\
             CB i (i+n) 64/\
              BL (aa [] k).bytes i.toNat (i+n).toNat=dQ [] k i n/\0=b7 [] k i n))):=by
 refine⟨rfl,fun h=>pD (LB h) (by omega),fun h=>⟨fun h2=>pD (UU h h2) (by omega),fun h2=>⟨fun h3=>yn (VB h h2) h3,fun h3=>?_⟩⟩⟩
 rw[(dz (qi h2).1).2.2.2.1];exact wz (VB h h2) h3
theorem La (L:List Sx.Obj) (k:Key) (i n:Int):
 true=true/\
  (decide (an L=0)=true->(⟨#[]⟩:ByteArray)=dQ L k i n/\1=b7 L k i n)/\
   (decide (an L=0)=false->
    ((!aU L k|| !decide (k.kind=3))=true->
      (⟨#[]⟩:ByteArray)=dQ L k i n/\190=b7 L k i n)/\
      ((!aU L k|| !decide (k.kind=3))=false->
        ((!bZ i n)=true->(⟨#[]⟩:ByteArray)=dQ L k i n/\4=b7 L k i n)/\
          ((!bZ i n)=false->
            aG IntKind.i64 (i+n)/\
             CB i (i+n) 64/\
              BL (aa L k).bytes i.toNat (i+n).toNat=dQ L k i n/\0=b7 L k i n))):=by
 refine⟨rfl,fun h=>pD (LB h) (by omega),fun h=>⟨fun h2=>pD (UU h h2) (by omega),fun h2=>⟨fun h3=>yn (VB h h2) h3,fun h3=>?_⟩⟩⟩
 rw[(dz (qi h2).1).2.2.2.1];exact wz (VB h h2) h3
theorem nK:ck Tryz.prog 142 Pb:=
 eP (aJ s8 (aJ gQ (aJ ft (aJ ft cF)))) (fun _=>rfl) fun a hq hok=>by
  obtain⟨S,k,i,n,_⟩:=a;cases S with
  |none=>exact bn (inl:=(fun f=>f==143)) (ann:=aP) (ab bC (ab bL (ab nQ ak))) aC (Hx k i n) (by kernel_rfl)
  |some L=>exact bn (inl:=(fun f=>f==143)) (ann:=aP) (ab bC (ab bL (ab nQ ak))) aC (La L k i n) (by kernel_rfl)
end Go.Proofs.YtghpaegglbbocaaGreat
namespace Go.Proofs.YtghpaegglbbocaaGreat
open Go.Sx
set_option maxRecDepth 100000
theorem Pr (k:Key) (i:Int) (s:ByteArray):
 true=true/\
  (decide (an []=0)=true->1=cq [] k i s)/\
   (decide (an []=0)=false->
    ((!aU [] k|| !decide (k.kind=3))=true->190=cq [] k i s)/\
      ((!aU [] k|| !decide (k.kind=3))=false->
        ((!decide (bc BinOp.and IntKind.i64 k.rights 1=0))=true->191=cq [] k i s)/\
          ((!decide (bc BinOp.and IntKind.i64 k.rights 1=0))=false->
            aG IntKind.i64 (bW s)/\
             ((!bZ i (bW s))=true->4=cq [] k i s)/\
               ((!bZ i (bW s))=false->
                 true=true/\
                  true=true/\
                   CB i 64 64/\
                    true=true/\
                     eJ [] k.oid
                       {kind:=(aa [] k).kind,count:=(aa [] k).count,
                        calls:=(aa [] k).calls,slots:=(aa [] k).slots,
                        bytes:=R9 (aa [] k).bytes i.toNat (Int.toNat 64) s}=
                      cq [] k i s)))):=by
 exact⟨rfl,fun h=>(u6 (LB h) (by omega)).1,fun h=>absurd h (by decide)⟩
theorem Rv (k:Key) (i:Int) (s:ByteArray):
 true=true/\
  (decide (an []=0)=true->1=cq [] k i s)/\
   (decide (an []=0)=false->
    ((!aU [] k|| !decide (k.kind=3))=true->190=cq [] k i s)/\
      ((!aU [] k|| !decide (k.kind=3))=false->
        ((!decide (bc BinOp.and IntKind.i64 k.rights 1=0))=true->191=cq [] k i s)/\
          ((!decide (bc BinOp.and IntKind.i64 k.rights 1=0))=false->
            aG IntKind.i64 (bW s)/\
             ((!bZ i (bW s))=true->4=cq [] k i s)/\
               ((!bZ i (bW s))=false->true=true/\true=true/\CB i 64 64/\true=true/\False)))):=by
 exact⟨rfl,fun h=>(u6 (LB h) (by omega)).1,fun h=>absurd h (by decide)⟩
theorem Sy (L:List Sx.Obj) (k:Key) (i:Int) (s:ByteArray) (hL:aq L) (hs:aw s):
 true=true/\
  (decide (an L=0)=true->1=cq L k i s/\L=ec L k i s)/\
   (decide (an L=0)=false->
    ((!aU L k|| !decide (k.kind=3))=true->190=cq L k i s/\L=ec L k i s)/\
      ((!aU L k|| !decide (k.kind=3))=false->
        ((!decide (bc BinOp.and IntKind.i64 k.rights 1=0))=true->
          191=cq L k i s/\L=ec L k i s)/\
          ((!decide (bc BinOp.and IntKind.i64 k.rights 1=0))=false->
            aG IntKind.i64 (bW s)/\
             ((!bZ i (bW s))=true->4=cq L k i s/\L=ec L k i s)/\
               ((!bZ i (bW s))=false->
                 true=true/\
                  true=true/\
                   CB i 64 64/\
                    true=true/\
                     eJ L k.oid
                        {kind:=(aa L k).kind,count:=(aa L k).count,
                         calls:=(aa L k).calls,slots:=(aa L k).slots,
                         bytes:=R9 (aa L k).bytes i.toNat (Int.toNat 64) s}=
                       cq L k i s/\
                      cV L k.oid
                        {kind:=(aa L k).kind,count:=(aa L k).count,
                         calls:=(aa L k).calls,slots:=(aa L k).slots,
                         bytes:=R9 (aa L k).bytes i.toNat (Int.toNat 64) s}=
                       ec L k i s)))):=by
 refine⟨rfl,fun h=>u6 (LB h) (by omega),fun h=>⟨fun h2=>u6 (UU h h2) (by omega),fun h2=>⟨fun h3=>u6 (Xu h h2 h3) (by omega),fun h3=>⟨?_,fun h4=>I9 (VQ h h2 h3) h4,fun h4=>?_⟩⟩⟩⟩
 ·unfold aw at hs;simp only[aG,bY,bW];omega
 ·obtain⟨a,b,c⟩:=Wi hL (qi h2).1 (qi h2).2 (VQ h h2 h3) h4;exact⟨rfl,rfl,a,rfl,b,c⟩
theorem TU (L:List Sx.Obj) (k:Key) (i:Int) (s:ByteArray) (hL:aq L) (hs:aw s):ai Tryz.prog 76 [.lp 0 0,.key k,.it .i64 i,.st s] [.store tS eS L] (B0 (.it .i64 (cq L k i s)) (ec L k i s)) (fun _ _=>False):=
 bn (inl:=(fun f=>f==143||f==145||f==146)) (ann:=aP) (ab bC (ab bL (ab nQ ak))) (aD dN aC) (Sy L k i s hL hs) (by kernel_rfl)
theorem Bg:lF Tryz.prog 76 Vh:=
 mg (m:=fun x=> [.key x.1,.it .i64 x.2.1,.st x.2.2]) tQ (fun _=>rfl) (fun _ _=>rfl) (fun x=>bn (inl:=(fun f=>f==143||f==145||f==146)) (ann:=aP) (ab bC (ab bL (ab nQ ak))) (aD dN aC) (Pr x.1 x.2.1 x.2.2) (by kernel_rfl)) (fun x=>bn (inl:=(fun f=>f==143||f==145||f==146)) (ann:=aP) (ab bC (ab bL (ab nQ ak))) (aD dN aC) (Rv x.1 x.2.1 x.2.2) (by kernel_rfl)) fun L x hL _ _=>TU L x.1 x.2.1 x.2.2 hL.1 hL.2
theorem Ie (k:Key):
 true=true/\
  (decide (an []=0)=true->1=aS [] k true)/\
   (decide (an []=0)=false->
    ((!aU [] k|| !decide (k.kind=3))=true->190=aS [] k true)/\
      ((!aU [] k|| !decide (k.kind=3))=false->
        ((!decide (bc BinOp.and IntKind.i64 k.rights 1=0))=true->191=aS [] k true)/\
          ((!decide (bc BinOp.and IntKind.i64 k.rights 1=0))=false->
            true=true/\
             true=true/\
              CB 0 64 64/\
               true=true/\
                eJ [] k.oid
                  {kind:=(aa [] k).kind,count:=(aa [] k).count,calls:=(aa [] k).calls,
                   slots:=(aa [] k).slots,
                   bytes:=CS (aa [] k).bytes (Int.toNat 0) (Int.toNat 64)}=
                 aS [] k true))):=by
 exact⟨rfl,fun h=>(yE (LB h) (by omega)).1,fun h=>absurd h (by decide)⟩
theorem Ix (k:Key):
 true=true/\
  (decide (an []=0)=true->1=aS [] k true)/\
   (decide (an []=0)=false->
    ((!aU [] k|| !decide (k.kind=3))=true->190=aS [] k true)/\
      ((!aU [] k|| !decide (k.kind=3))=false->
        ((!decide (bc BinOp.and IntKind.i64 k.rights 1=0))=true->191=aS [] k true)/\
          ((!decide (bc BinOp.and IntKind.i64 k.rights 1=0))=false->
            true=true/\true=true/\CB 0 64 64/\true=true/\False))):=by
 exact⟨rfl,fun h=>(yE (LB h) (by omega)).1,fun h=>absurd h (by decide)⟩
theorem Ru (L:List Sx.Obj) (k:Key) (hL:aq L):
 true=true/\
  (decide (an L=0)=true->1=aS L k true/\L=eD L k)/\
   (decide (an L=0)=false->
    ((!aU L k|| !decide (k.kind=3))=true->190=aS L k true/\L=eD L k)/\
      ((!aU L k|| !decide (k.kind=3))=false->
        ((!decide (bc BinOp.and IntKind.i64 k.rights 1=0))=true->191=aS L k true/\L=eD L k)/\
          ((!decide (bc BinOp.and IntKind.i64 k.rights 1=0))=false->
            true=true/\
             true=true/\
              CB 0 64 64/\
               true=true/\
                eJ L k.oid
                   {kind:=(aa L k).kind,count:=(aa L k).count,calls:=(aa L k).calls,
                    slots:=(aa L k).slots,
                    bytes:=CS (aa L k).bytes (Int.toNat 0) (Int.toNat 64)}=
                  aS L k true/\
                 cV L k.oid
                   {kind:=(aa L k).kind,count:=(aa L k).count,calls:=(aa L k).calls,
                    slots:=(aa L k).slots,
                    bytes:=CS (aa L k).bytes (Int.toNat 0) (Int.toNat 64)}=
                  eD L k))):=by
 refine⟨rfl,fun h=>yE (LB h) (by omega),fun h=>⟨fun h2=>yE (UU h h2) (by omega),fun h2=>⟨fun h3=>yE (Xu h h2 h3) (by omega),fun h3=>?_⟩⟩⟩
 obtain⟨a,b,c⟩:=VF hL (qi h2).1 (qi h2).2 (VQ h h2 h3);exact⟨rfl,rfl,a,rfl,b,c⟩
theorem QX (L:List Sx.Obj) (k:Key) (hL:aq L):ai Tryz.prog 78 [.lp 0 0,.key k] [.store tS eS L] (B0 (.it .i64 (aS L k true)) (eD L k)) (fun _ _=>False):=
 bn (inl:=(fun f=>f==143||f==145||f==147)) (ann:=aP) (ab bC (ab bL ak)) (aD dN aC) (Ru L k hL) (by kernel_rfl)
theorem Qd:lF Tryz.prog 78 SN:=
 mg (m:=fun x=> [.key x]) LQ (fun _=>rfl) (fun _ _=>rfl) (fun x=>bn (inl:=(fun f=>f==143||f==145||f==147)) (ann:=aP) (ab bC (ab bL ak)) (aD dN aC) (Ie x) (by kernel_rfl)) (fun x=>bn (inl:=(fun f=>f==143||f==145||f==147)) (ann:=aP) (ab bC (ab bL ak)) (aD dN aC) (Ix x) (by kernel_rfl)) fun L x hL _ _=>QX L x hL
theorem Px (t f:Key):
 true=true/\
  (decide (an []=0)=true->1=cy [] t f)/\
   (decide (an []=0)=false->
    ((!aU [] t|| !decide (t.kind=3))=true->190=cy [] t f)/\
      ((!aU [] t|| !decide (t.kind=3))=false->
        ((!decide (bc BinOp.and IntKind.i64 t.rights 1=0))=true->191=cy [] t f)/\
          ((!decide (bc BinOp.and IntKind.i64 t.rights 1=0))=false->
            true=true/\
             (decide (an []=0)=true->1=cy [] t f)/\
              (decide (an []=0)=false->
               ((!aU [] f|| !decide (f.kind=3))=true->190=cy [] t f)/\
                 ((!aU [] f|| !decide (f.kind=3))=false->
                   true=true/\
                    true=true/\
                     true=true/\
                      eJ [] t.oid
                        {kind:=(aa [] t).kind,count:=(aa [] t).count,
                         calls:=(aa [] t).calls,slots:=(aa [] t).slots,
                         bytes:=(aa [] f).bytes}=
                       cy [] t f))))):=by
 exact⟨rfl,fun h=>(uN (LB h) (by omega)).1,fun h=>absurd h (by decide)⟩
theorem Ou (t f:Key):
 true=true/\
  (decide (an []=0)=true->1=cy [] t f)/\
   (decide (an []=0)=false->
    ((!aU [] t|| !decide (t.kind=3))=true->190=cy [] t f)/\
      ((!aU [] t|| !decide (t.kind=3))=false->
        ((!decide (bc BinOp.and IntKind.i64 t.rights 1=0))=true->191=cy [] t f)/\
          ((!decide (bc BinOp.and IntKind.i64 t.rights 1=0))=false->
            true=true/\
             (decide (an []=0)=true->1=cy [] t f)/\
              (decide (an []=0)=false->
               ((!aU [] f|| !decide (f.kind=3))=true->190=cy [] t f)/\
                 ((!aU [] f|| !decide (f.kind=3))=false->
                   true=true/\true=true/\true=true/\False))))):=by
 exact⟨rfl,fun h=>(uN (LB h) (by omega)).1,fun h=>absurd h (by decide)⟩
theorem S9 (L:List Sx.Obj) (t f:Key) (hL:aq L):
 true=true/\
  (decide (an L=0)=true->1=cy L t f/\L=eT L t f)/\
   (decide (an L=0)=false->
    ((!aU L t|| !decide (t.kind=3))=true->190=cy L t f/\L=eT L t f)/\
      ((!aU L t|| !decide (t.kind=3))=false->
        ((!decide (bc BinOp.and IntKind.i64 t.rights 1=0))=true->191=cy L t f/\L=eT L t f)/\
          ((!decide (bc BinOp.and IntKind.i64 t.rights 1=0))=false->
            true=true/\
             (decide (an L=0)=true->1=cy L t f/\L=eT L t f)/\
              (decide (an L=0)=false->
               ((!aU L f|| !decide (f.kind=3))=true->190=cy L t f/\L=eT L t f)/\
                 ((!aU L f|| !decide (f.kind=3))=false->
                   true=true/\
                    true=true/\
                     true=true/\
                      eJ L t.oid
                         {kind:=(aa L t).kind,count:=(aa L t).count,
                          calls:=(aa L t).calls,slots:=(aa L t).slots,
                          bytes:=(aa L f).bytes}=
                        cy L t f/\
                       cV L t.oid
                         {kind:=(aa L t).kind,count:=(aa L t).count,
                          calls:=(aa L t).calls,slots:=(aa L t).slots,
                          bytes:=(aa L f).bytes}=
                        eT L t f))))):=by
 refine⟨rfl,fun h=>uN (LB h) (by omega),fun h=>⟨fun h2=>uN (UU h h2) (by omega),fun h2=>⟨fun h3=>uN (Xu h h2 h3) (by omega),fun h3=>⟨rfl,fun h'=>?_,fun _=>⟨fun h5=>Gv (VQ h h2 h3) (UU h h5) (by omega),fun h5=>?_⟩⟩⟩⟩⟩
 ·rw[h]at h';simp at h'
 ·obtain⟨b,c⟩:=Wh hL (qi h2).1 (qi h2).2 (VQ h h2 h3) (qi h5).1 (VB h h5);exact⟨rfl,rfl,rfl,b,c⟩
theorem T9 (L:List Sx.Obj) (t f:Key) (hL:aq L):ai Tryz.prog 80 [.lp 0 0,.key t,.key f] [.store tS eS L] (B0 (.it .i64 (cy L t f)) (eT L t f)) (fun _ _=>False):=
 bn (inl:=(fun f=>f==143||f==145||f==148)) (ann:=aP) (ab bC (ab bL ak)) (aD dN aC) (S9 L t f hL) (by kernel_rfl)
theorem TQ:lF Tryz.prog 80 Vn:=
 mg (m:=fun x=> [.key x.1,.key x.2]) Fa (fun _=>rfl) (fun _ _=>rfl) (fun x=>bn (inl:=(fun f=>f==143||f==145||f==148)) (ann:=aP) (ab bC (ab bL ak)) (aD dN aC) (Px x.1 x.2) (by kernel_rfl)) (fun x=>bn (inl:=(fun f=>f==143||f==145||f==148)) (ann:=aP) (ab bC (ab bL ak)) (aD dN aC) (Ou x.1 x.2) (by kernel_rfl)) fun L x hL _ _=>T9 L x.1 x.2 hL
end Go.Proofs.YtghpaegglbbocaaGreat
