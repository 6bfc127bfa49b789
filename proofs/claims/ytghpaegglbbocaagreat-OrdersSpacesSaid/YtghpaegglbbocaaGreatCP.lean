import Derived.Test.YtghpaegglbbocaaGreatCN
import Derived.Test.YtghpaegglbbocaaGreatKS
import Derived.Test.YtghpaegglbbocaaGreatSpP
set_option linter.unusedSimpArgs false
set_option linter.unusedVariables false
namespace Go.Proofs.YtghpaegglbbocaaGreat
open Go.Sx
set_option maxRecDepth 100000
theorem Gm (i n:Int):
 ((decide (0<=i)&&decide (0<=n)&&decide (i<=64))=true->aI IntKind.i64 (64-i))/\
   (decide (0<=i)&&decide (0<=n)&&decide (i<=64)&&decide (n<=64-i))=bY i n:=by
 unfold bY;refine⟨fun h=>?_,?_⟩
 ·simp only[XK,XL]at h;simp only[aI,cg];omega
 ·rfl
theorem nL:cj Tryz.prog 144 BW:=
 mz (fy .i64) (fy .i64) (fun _ _=>rfl) fun i n _ _=>aW (inl:=bn) (ann:=aP) an (Gm i n) (by kernel_rfl)
theorem Dj (i n:Int):
 ((decide (0<=i)&&decide (0<=n)&&decide (i<=64)&&decide (n<=64))=true->aI IntKind.i64 (i+n))/\
   (decide (0<=i)&&decide (0<=n)&&decide (i<=64)&&decide (n<=64)&&decide (i+n<=64))=bY i n:=by
 unfold bY;refine⟨fun h=>?_,?_⟩
 ·simp only[XK,XL]at h;simp only[aI,cg]at *;omega
 ·rw[Bool.eq_iff_iff];simp only[XK,XL];omega
theorem rR:cj Tryz.prog 180 BW:=
 mz (fy .i64) (fy .i64) (fun _ _=>rfl) fun i n _ _=>aW (inl:=bn) (ann:=aP) an (Dj i n) (by kernel_rfl)
theorem N3 (L:List Sx.Obj) (k:Key) (c:Bool):
 ((decide (aw L k 3 false=0)&&c&& !decide (k.rights=0))=true->191=aS L k c)/\
   ((decide (aw L k 3 false=0)&&c&& !decide (k.rights=0))=false->aw L k 3 false=aS L k c):=by
 unfold aS;refine⟨fun h=>?_,fun h=>?_⟩
 ·simp only[XK,XL]at h;rw[XR h.1.1,XR (by rw[h.1.2,Bool.true_and];exact h.2)]
 ·split
  ·rename_i h1;rw[decide_eq_true h1,Bool.true_and]at h;rw[XQ (by rw[h];simp),h1]
  ·rfl
theorem tz:cj Tryz.prog 179 SU:=
 eY (aJ jo (aJ gM (aJ FV cK))) (fun _=>rfl) fun a hq hok=>by
  obtain⟨L,k,c,_⟩:=a;exact aW (inl:=bn) (ann:=aP) (ae nI an) (N3 L k c) (by kernel_rfl)
theorem GD (k:Key) (i n:Int):
 true=true/\
  (decide (ak []=0)=true->(⟨#[]⟩:ByteArray)=dO [] k i n/\1=bX [] k i n)/\
   (decide (ak []=0)=false->
    ((!aU [] k|| !decide (k.kind=3))=true->
      (⟨#[]⟩:ByteArray)=dO [] k i n/\190=bX [] k i n)/\
      ((!aU [] k|| !decide (k.kind=3))=false->
        ((!bY i n)=true->(⟨#[]⟩:ByteArray)=dO [] k i n/\4=bX [] k i n)/\
          ((!bY i n)=false->
            aI IntKind.i64 (i+n)/\
             BL i (i+n) 64/\
              Ab (aa [] k).bytes i.toNat (i+n).toNat=dO [] k i n/\0=bX [] k i n))):=by
 refine⟨rfl,fun h=>pB (II h) (by omega),fun h=>⟨fun h2=>pB (Up h h2) (by omega),fun h2=>⟨fun h3=>wB (Uq h h2) h3,fun h3=>?_⟩⟩⟩
 rw[(dB (p8 h2).1).2.2.2.1];exact vK (Uq h h2) h3
theorem LX (L:List Sx.Obj) (k:Key) (i n:Int):
 true=true/\
  (decide (ak L=0)=true->(⟨#[]⟩:ByteArray)=dO L k i n/\1=bX L k i n)/\
   (decide (ak L=0)=false->
    ((!aU L k|| !decide (k.kind=3))=true->
      (⟨#[]⟩:ByteArray)=dO L k i n/\190=bX L k i n)/\
      ((!aU L k|| !decide (k.kind=3))=false->
        ((!bY i n)=true->(⟨#[]⟩:ByteArray)=dO L k i n/\4=bX L k i n)/\
          ((!bY i n)=false->
            aI IntKind.i64 (i+n)/\
             BL i (i+n) 64/\
              Ab (aa L k).bytes i.toNat (i+n).toNat=dO L k i n/\0=bX L k i n))):=by
 refine⟨rfl,fun h=>pB (II h) (by omega),fun h=>⟨fun h2=>pB (Up h h2) (by omega),fun h2=>⟨fun h3=>wB (Uq h h2) h3,fun h3=>?_⟩⟩⟩
 rw[(dB (p8 h2).1).2.2.2.1];exact vK (Uq h h2) h3
theorem nP:cj Tryz.prog 142 Pa:=
 eY (aJ tf (aJ gM (aJ fl (aJ fl cK)))) (fun _=>rfl) fun a hq hok=>by
  obtain⟨S,k,i,n,_⟩:=a;cases S with
  |none=>exact br (inl:=(fun f=>f==143)) (ann:=aP) (ae bB (ae bK (ae nL an))) aC (GD k i n) (by kernel_rfl)
  |some L=>exact br (inl:=(fun f=>f==143)) (ann:=aP) (ae bB (ae bK (ae nL an))) aC (LX L k i n) (by kernel_rfl)
end Go.Proofs.YtghpaegglbbocaaGreat
namespace Go.Proofs.YtghpaegglbbocaaGreat
open Go.Sx
set_option maxRecDepth 100000
theorem N8 (k:Key) (i:Int) (s:ByteArray):
 true=true/\
  (decide (ak []=0)=true->1=cm [] k i s)/\
   (decide (ak []=0)=false->
    ((!aU [] k|| !decide (k.kind=3))=true->190=cm [] k i s)/\
      ((!aU [] k|| !decide (k.kind=3))=false->
        ((!decide (bd BinOp.and IntKind.i64 k.rights 1=0))=true->191=cm [] k i s)/\
          ((!decide (bd BinOp.and IntKind.i64 k.rights 1=0))=false->
            aI IntKind.i64 (cc s)/\
             ((!bY i (cc s))=true->4=cm [] k i s)/\
               ((!bY i (cc s))=false->
                 true=true/\
                  true=true/\
                   BL i 64 64/\
                    true=true/\
                     eK [] k.oid
                       {kind:=(aa [] k).kind,count:=(aa [] k).count,
                        calls:=(aa [] k).calls,slots:=(aa [] k).slots,
                        bytes:=Rz (aa [] k).bytes i.toNat (Int.toNat 64) s}=
                      cm [] k i s)))):=by
 exact⟨rfl,fun h=>(uz (II h) (by omega)).1,fun h=>absurd h (by decide)⟩
theorem NX (k:Key) (i:Int) (s:ByteArray):
 true=true/\
  (decide (ak []=0)=true->1=cm [] k i s)/\
   (decide (ak []=0)=false->
    ((!aU [] k|| !decide (k.kind=3))=true->190=cm [] k i s)/\
      ((!aU [] k|| !decide (k.kind=3))=false->
        ((!decide (bd BinOp.and IntKind.i64 k.rights 1=0))=true->191=cm [] k i s)/\
          ((!decide (bd BinOp.and IntKind.i64 k.rights 1=0))=false->
            aI IntKind.i64 (cc s)/\
             ((!bY i (cc s))=true->4=cm [] k i s)/\
               ((!bY i (cc s))=false->true=true/\true=true/\BL i 64 64/\true=true/\False)))):=by
 exact⟨rfl,fun h=>(uz (II h) (by omega)).1,fun h=>absurd h (by decide)⟩
theorem TQ (L:List Sx.Obj) (k:Key) (i:Int) (s:ByteArray) (hL:aq L) (hs:aA s):
 true=true/\
  (decide (ak L=0)=true->1=cm L k i s/\L=ea L k i s)/\
   (decide (ak L=0)=false->
    ((!aU L k|| !decide (k.kind=3))=true->190=cm L k i s/\L=ea L k i s)/\
      ((!aU L k|| !decide (k.kind=3))=false->
        ((!decide (bd BinOp.and IntKind.i64 k.rights 1=0))=true->
          191=cm L k i s/\L=ea L k i s)/\
          ((!decide (bd BinOp.and IntKind.i64 k.rights 1=0))=false->
            aI IntKind.i64 (cc s)/\
             ((!bY i (cc s))=true->4=cm L k i s/\L=ea L k i s)/\
               ((!bY i (cc s))=false->
                 true=true/\
                  true=true/\
                   BL i 64 64/\
                    true=true/\
                     eK L k.oid
                        {kind:=(aa L k).kind,count:=(aa L k).count,
                         calls:=(aa L k).calls,slots:=(aa L k).slots,
                         bytes:=Rz (aa L k).bytes i.toNat (Int.toNat 64) s}=
                       cm L k i s/\
                      cW L k.oid
                        {kind:=(aa L k).kind,count:=(aa L k).count,
                         calls:=(aa L k).calls,slots:=(aa L k).slots,
                         bytes:=Rz (aa L k).bytes i.toNat (Int.toNat 64) s}=
                       ea L k i s)))):=by
 refine⟨rfl,fun h=>uz (II h) (by omega),fun h=>⟨fun h2=>uz (Up h h2) (by omega),fun h2=>⟨fun h3=>uz (WB h h2 h3) (by omega),fun h3=>⟨?_,fun h4=>HV (UN h h2 h3) h4,fun h4=>?_⟩⟩⟩⟩
 ·unfold aA at hs;simp only[aI,cg,cc];omega
 ·obtain⟨a,b,c⟩:=UK hL (p8 h2).1 (p8 h2).2 (UN h h2 h3) h4;exact⟨rfl,rfl,a,rfl,b,c⟩
theorem R0 (L:List Sx.Obj) (k:Key) (i:Int) (s:ByteArray) (hL:aq L) (hs:aA s):ai Tryz.prog 76 [.lp 0 0,.key k,.it .i64 i,.st s] [.store tS eS L] (CP (.it .i64 (cm L k i s)) (ea L k i s)) (fun _ _=>False):=
 br (inl:=(fun f=>f==143||f==145||f==146)) (ann:=aP) (ae bB (ae bK (ae nL an))) (aF dM aC) (TQ L k i s hL hs) (by kernel_rfl)
theorem Ak:ll Tryz.prog 76 UD:=
 mj (m:=fun x=> [.key x.1,.it .i64 x.2.1,.st x.2.2]) su (fun _=>rfl) (fun _ _=>rfl) (fun x=>br (inl:=(fun f=>f==143||f==145||f==146)) (ann:=aP) (ae bB (ae bK (ae nL an))) (aF dM aC) (N8 x.1 x.2.1 x.2.2) (by kernel_rfl)) (fun x=>br (inl:=(fun f=>f==143||f==145||f==146)) (ann:=aP) (ae bB (ae bK (ae nL an))) (aF dM aC) (NX x.1 x.2.1 x.2.2) (by kernel_rfl)) fun L x hL _ _=>R0 L x.1 x.2.1 x.2.2 hL.1 hL.2
theorem Ll (k:Key):
 true=true/\
  (decide (ak []=0)=true->1=aS [] k true)/\
   (decide (ak []=0)=false->
    ((!aU [] k|| !decide (k.kind=3))=true->190=aS [] k true)/\
      ((!aU [] k|| !decide (k.kind=3))=false->
        ((!decide (bd BinOp.and IntKind.i64 k.rights 1=0))=true->191=aS [] k true)/\
          ((!decide (bd BinOp.and IntKind.i64 k.rights 1=0))=false->
            true=true/\
             true=true/\
              BL 0 64 64/\
               true=true/\
                eK [] k.oid
                  {kind:=(aa [] k).kind,count:=(aa [] k).count,calls:=(aa [] k).calls,
                   slots:=(aa [] k).slots,
                   bytes:=BF (aa [] k).bytes (Int.toNat 0) (Int.toNat 64)}=
                 aS [] k true))):=by
 exact⟨rfl,fun h=>(xk (II h) (by omega)).1,fun h=>absurd h (by decide)⟩
theorem IB (k:Key):
 true=true/\
  (decide (ak []=0)=true->1=aS [] k true)/\
   (decide (ak []=0)=false->
    ((!aU [] k|| !decide (k.kind=3))=true->190=aS [] k true)/\
      ((!aU [] k|| !decide (k.kind=3))=false->
        ((!decide (bd BinOp.and IntKind.i64 k.rights 1=0))=true->191=aS [] k true)/\
          ((!decide (bd BinOp.and IntKind.i64 k.rights 1=0))=false->
            true=true/\true=true/\BL 0 64 64/\true=true/\False))):=by
 exact⟨rfl,fun h=>(xk (II h) (by omega)).1,fun h=>absurd h (by decide)⟩
theorem Nz (L:List Sx.Obj) (k:Key) (hL:aq L):
 true=true/\
  (decide (ak L=0)=true->1=aS L k true/\L=eC L k)/\
   (decide (ak L=0)=false->
    ((!aU L k|| !decide (k.kind=3))=true->190=aS L k true/\L=eC L k)/\
      ((!aU L k|| !decide (k.kind=3))=false->
        ((!decide (bd BinOp.and IntKind.i64 k.rights 1=0))=true->191=aS L k true/\L=eC L k)/\
          ((!decide (bd BinOp.and IntKind.i64 k.rights 1=0))=false->
            true=true/\
             true=true/\
              BL 0 64 64/\
               true=true/\
                eK L k.oid
                   {kind:=(aa L k).kind,count:=(aa L k).count,calls:=(aa L k).calls,
                    slots:=(aa L k).slots,
                    bytes:=BF (aa L k).bytes (Int.toNat 0) (Int.toNat 64)}=
                  aS L k true/\
                 cW L k.oid
                   {kind:=(aa L k).kind,count:=(aa L k).count,calls:=(aa L k).calls,
                    slots:=(aa L k).slots,
                    bytes:=BF (aa L k).bytes (Int.toNat 0) (Int.toNat 64)}=
                  eC L k))):=by
 refine⟨rfl,fun h=>xk (II h) (by omega),fun h=>⟨fun h2=>xk (Up h h2) (by omega),fun h2=>⟨fun h3=>xk (WB h h2 h3) (by omega),fun h3=>?_⟩⟩⟩
 obtain⟨a,b,c⟩:=U0 hL (p8 h2).1 (p8 h2).2 (UN h h2 h3);exact⟨rfl,rfl,a,rfl,b,c⟩
theorem QO (L:List Sx.Obj) (k:Key) (hL:aq L):ai Tryz.prog 78 [.lp 0 0,.key k] [.store tS eS L] (CP (.it .i64 (aS L k true)) (eC L k)) (fun _ _=>False):=
 br (inl:=(fun f=>f==143||f==145||f==147)) (ann:=aP) (ae bB (ae bK an)) (aF dM aC) (Nz L k hL) (by kernel_rfl)
theorem NO:ll Tryz.prog 78 TX:=
 mj (m:=fun x=> [.key x]) Kc (fun _=>rfl) (fun _ _=>rfl) (fun x=>br (inl:=(fun f=>f==143||f==145||f==147)) (ann:=aP) (ae bB (ae bK an)) (aF dM aC) (Ll x) (by kernel_rfl)) (fun x=>br (inl:=(fun f=>f==143||f==145||f==147)) (ann:=aP) (ae bB (ae bK an)) (aF dM aC) (IB x) (by kernel_rfl)) fun L x hL _ _=>QO L x hL
theorem Qg (t f:Key):
 true=true/\
  (decide (ak []=0)=true->1=cy [] t f)/\
   (decide (ak []=0)=false->
    ((!aU [] t|| !decide (t.kind=3))=true->190=cy [] t f)/\
      ((!aU [] t|| !decide (t.kind=3))=false->
        ((!decide (bd BinOp.and IntKind.i64 t.rights 1=0))=true->191=cy [] t f)/\
          ((!decide (bd BinOp.and IntKind.i64 t.rights 1=0))=false->
            true=true/\
             (decide (ak []=0)=true->1=cy [] t f)/\
              (decide (ak []=0)=false->
               ((!aU [] f|| !decide (f.kind=3))=true->190=cy [] t f)/\
                 ((!aU [] f|| !decide (f.kind=3))=false->
                   true=true/\
                    true=true/\
                     true=true/\
                      eK [] t.oid
                        {kind:=(aa [] t).kind,count:=(aa [] t).count,
                         calls:=(aa [] t).calls,slots:=(aa [] t).slots,
                         bytes:=(aa [] f).bytes}=
                       cy [] t f))))):=by
 exact⟨rfl,fun h=>(uR (II h) (by omega)).1,fun h=>absurd h (by decide)⟩
theorem QT (t f:Key):
 true=true/\
  (decide (ak []=0)=true->1=cy [] t f)/\
   (decide (ak []=0)=false->
    ((!aU [] t|| !decide (t.kind=3))=true->190=cy [] t f)/\
      ((!aU [] t|| !decide (t.kind=3))=false->
        ((!decide (bd BinOp.and IntKind.i64 t.rights 1=0))=true->191=cy [] t f)/\
          ((!decide (bd BinOp.and IntKind.i64 t.rights 1=0))=false->
            true=true/\
             (decide (ak []=0)=true->1=cy [] t f)/\
              (decide (ak []=0)=false->
               ((!aU [] f|| !decide (f.kind=3))=true->190=cy [] t f)/\
                 ((!aU [] f|| !decide (f.kind=3))=false->
                   true=true/\true=true/\true=true/\False))))):=by
 exact⟨rfl,fun h=>(uR (II h) (by omega)).1,fun h=>absurd h (by decide)⟩
theorem S8 (L:List Sx.Obj) (t f:Key) (hL:aq L):
 true=true/\
  (decide (ak L=0)=true->1=cy L t f/\L=eQ L t f)/\
   (decide (ak L=0)=false->
    ((!aU L t|| !decide (t.kind=3))=true->190=cy L t f/\L=eQ L t f)/\
      ((!aU L t|| !decide (t.kind=3))=false->
        ((!decide (bd BinOp.and IntKind.i64 t.rights 1=0))=true->191=cy L t f/\L=eQ L t f)/\
          ((!decide (bd BinOp.and IntKind.i64 t.rights 1=0))=false->
            true=true/\
             (decide (ak L=0)=true->1=cy L t f/\L=eQ L t f)/\
              (decide (ak L=0)=false->
               ((!aU L f|| !decide (f.kind=3))=true->190=cy L t f/\L=eQ L t f)/\
                 ((!aU L f|| !decide (f.kind=3))=false->
                   true=true/\
                    true=true/\
                     true=true/\
                      eK L t.oid
                         {kind:=(aa L t).kind,count:=(aa L t).count,
                          calls:=(aa L t).calls,slots:=(aa L t).slots,
                          bytes:=(aa L f).bytes}=
                        cy L t f/\
                       cW L t.oid
                         {kind:=(aa L t).kind,count:=(aa L t).count,
                          calls:=(aa L t).calls,slots:=(aa L t).slots,
                          bytes:=(aa L f).bytes}=
                        eQ L t f))))):=by
 refine⟨rfl,fun h=>uR (II h) (by omega),fun h=>⟨fun h2=>uR (Up h h2) (by omega),fun h2=>⟨fun h3=>uR (WB h h2 h3) (by omega),fun h3=>⟨rfl,fun h'=>?_,fun _=>⟨fun h5=>Fb (UN h h2 h3) (Up h h5) (by omega),fun h5=>?_⟩⟩⟩⟩⟩
 ·rw[h]at h';simp at h'
 ·obtain⟨b,c⟩:=VW hL (p8 h2).1 (p8 h2).2 (UN h h2 h3) (p8 h5).1 (Uq h h5);exact⟨rfl,rfl,rfl,b,c⟩
theorem TA (L:List Sx.Obj) (t f:Key) (hL:aq L):ai Tryz.prog 80 [.lp 0 0,.key t,.key f] [.store tS eS L] (CP (.it .i64 (cy L t f)) (eQ L t f)) (fun _ _=>False):=
 br (inl:=(fun f=>f==143||f==145||f==148)) (ann:=aP) (ae bB (ae bK an)) (aF dM aC) (S8 L t f hL) (by kernel_rfl)
theorem Su:ll Tryz.prog 80 Vs:=
 mj (m:=fun x=> [.key x.1,.key x.2]) ES (fun _=>rfl) (fun _ _=>rfl) (fun x=>br (inl:=(fun f=>f==143||f==145||f==148)) (ann:=aP) (ae bB (ae bK an)) (aF dM aC) (Qg x.1 x.2) (by kernel_rfl)) (fun x=>br (inl:=(fun f=>f==143||f==145||f==148)) (ann:=aP) (ae bB (ae bK an)) (aF dM aC) (QT x.1 x.2) (by kernel_rfl)) fun L x hL _ _=>TA L x.1 x.2 hL
end Go.Proofs.YtghpaegglbbocaaGreat
