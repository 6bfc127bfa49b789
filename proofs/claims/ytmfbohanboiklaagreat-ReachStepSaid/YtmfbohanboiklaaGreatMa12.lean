import Derived.Test.YtmfbohanboiklaaGreatMa11
set_option linter.unusedSimpArgs false
set_option linter.unusedVariables false
set_option maxRecDepth 100000
namespace Go.Proofs.YtmfbohanboiklaaGreat
open Go.Sx
abbrev aD(k:Key):=!(decide ((ay [] k 0).kind=1)&&decide ((ay [] k 1).kind=1)&&decide (0<=(ay [] k 0).value)&&decide ((ay [] k 0).value<=(ay [] k 1).value)&&decide ((ay [] k 1).value<aJ []))
theorem Ho(k:Key)(n:Int):
 aw (aw (au (!decide (0<aJ [])) (void=cJ [] k n/\1=cX [] k n) (aw (au (!(bk [] k&&decide (k.kind=4))) (void=cJ [] k n/\190=cX [] k n) (aw (au (aD k) (void=cJ [] k n/\220=cX [] k n) ((decide (1<=n)=true->bh IntKind.i64 ((ay [] k 1).value-(ay [] k 0).value))/\aw (au (!(decide (1<=n)&&decide (n<=(ay [] k 1).value-(ay [] k 0).value))) (void=cJ [] k n/\4=cX [] k n) (aw (aw (aw (au (!decide (0<aJ [])) (void=cJ [] k n/\1=cX [] k n) (aw (au (!(bk [] k&&decide (k.kind=4))) (void=cJ [] k n/\190=cX [] k n) (aw (au (aD k) (void=cJ [] k n/\220=cX [] k n) (aw (aw (aw (∀(r0:Loop),False)))))))))))))))))))):=by
 delta au ay aD aw
 exact⟨rfl,rfl,fun h=>(pW (vf (IE h) (by omega)) (by omega)).1,fun h=>absurd h (by decide)⟩
theorem Ik(k:Key)(n:Int):
 aw (aw (au (!decide (0<aJ [])) (void=cJ [] k n/\1=cX [] k n) (aw (au (!(bk [] k&&decide (k.kind=4))) (void=cJ [] k n/\190=cX [] k n) (aw (au (!(decide ((ay [] k 0).kind=1)&&decide ((ay [] k 1).kind=1)&&decide (0<=(ay [] k 0).value)&&decide ((ay [] k 0).value<=(ay [] k 1).value)&&decide ((ay [] k 1).value<aJ []))) (void=cJ [] k n/\220=cX [] k n) ((decide (1<=n)=true->bh IntKind.i64 ((ay [] k 1).value-(ay [] k 0).value))/\aw (au (!(decide (1<=n)&&decide (n<=(ay [] k 1).value-(ay [] k 0).value))) (void=cJ [] k n/\4=cX [] k n) (aw False))))))))):=by
 delta au ay aw
 exact⟨rfl,rfl,fun h=>(pW (vf (IE h) (by omega)) (by omega)).1,fun h=>absurd h (by decide)⟩
abbrev aE(L:List Sx.Obj)(k:Key)(g:Int):=(fh L k g).count+1
abbrev aF(L:List Sx.Obj)(k:Key):=!(decide ((ay L k 0).kind=1)&&decide ((ay L k 1).kind=1)&&decide (0<=(ay L k 0).value)&&decide ((ay L k 0).value<=(ay L k 1).value)&&decide ((ay L k 1).value<aJ L))
abbrev abV(g:Int):=(aQ [] g).count+1
abbrev adx(g:Int)(L:List Sx.Obj)(k:Key)(n:Int)(g_2:Int):=(Key.mk 4 g (aE L k g) (cR 1 g (aE L k g)).call (cR 1 g (aE L k g)).rights (cR 1 g (aE L k g)).value=cJ L k n/\0=cX L k n)/\mX L (bN L k n) g_2=bN L k n
abbrev ady(L:List Sx.Obj)(k:Key)(n:Int):=void=cJ L k n/\221=cX L k n
theorem LO(L:List Sx.Obj)(k:Key)(n:Int)(hL:aO L):
 aw (aw (au (!decide (0<aJ L)) ((void=cJ L k n/\1=cX L k n)/\L=bN L k n) (aw (au (!(bk L k&&decide (k.kind=4))) ((void=cJ L k n/\190=cX L k n)/\L=bN L k n) (aw (au (aF L k) ((void=cJ L k n/\220=cX L k n)/\L=bN L k n) ((decide (1<=n)=true->az ((ay L k 1).value-(ay L k 0).value))/\aw (au (!(decide (1<=n)&&decide (n<=(ay L k 1).value-(ay L k 0).value))) ((void=cJ L k n/\4=cX L k n)/\L=bN L k n) (aw ((aK L).le 1000/\au (bD L) (aw (aw (au (!decide (0<aJ [])) ((void=cJ L k n/\1=cX L k n)/\L=bN L k n) (aw (au (!(bk [] k&&decide (k.kind=4))) ((void=cJ L k n/\190=cX L k n)/\L=bN L k n) (aw (au (!(decide ((ay [] k 0).kind=1)&&decide ((ay [] k 1).kind=1)&&decide (0<=(ay [] k 0).value)&&decide ((ay [] k 0).value<=(ay [] k 1).value)&&decide ((ay [] k 1).value<aJ []))) ((void=cJ L k n/\220=cX L k n)/\L=bN L k n) (aw (aw (aw (∀(r0:Loop),(∃g,jI L k g/\False)/\∀(g:Int),jI L k g->au (decide (g<=(ay [] k 1).value)) (r0=r0/\r0=r0/\au (!decide ((aQ [] g).kind=0)) (r0=r0/\az (g+1)/\∃g',jI L k g'/\(aZ L k+1-g').toNat<(aZ L k+1 -g).toNat/\g+1=g'/\L=L/\k=k/\n=n/\void=void/\k=k/\aG L k=aG L k/\k.oid=k.oid/\(ay L k 0).value=(ay L k 0).value/\(ay L k 1).value=(ay L k 1).value/\aG L k=aG L k/\ay L k 0=ay L k 0/\ay L k 1=ay L k 1/\aG L k=aG L k/\k.oid=k.oid/\(ay L k 0).value=(ay L k 0).value/\(ay L k 1).value=(ay L k 1).value/\cw L (aX L k) g=cw L (aX L k) g'/\aG [] k=aG [] k/\Value.pointer none=Value.pointer none/\k.oid=k.oid/\(ay [] k 0).value=(ay [] k 0).value/\(ay [] k 1).value=(ay [] k 1).value/\aG [] k=aG [] k/\ay [] k 0=ay [] k 0/\ay [] k 1=ay [] k 1/\aG [] k=aG [] k/\Value.pointer none=Value.pointer none/\k.oid=k.oid/\(ay [] k 0).value=(ay [] k 0).value/\(ay [] k 1).value=(ay [] k 1).value/\aG [] k=aG [] k/\Value.pointer none=Value.pointer none/\k.oid=k.oid/\(ay [] k 0).value=(ay [] k 0).value/\(ay [] k 1).value=(ay [] k 1).value/\void=void/\false=false/\aG [] k=aG [] k/\Value.pointer none=Value.pointer none/\k.oid=k.oid/\(ay [] k 0).value=(ay [] k 0).value/\(ay [] k 1).value=(ay [] k 1).value/\r0=r0) (au (decide ((aQ [] g).count=4294967295)) (aw (r0=r0/\az (g+1)/\∃g',jI L k g'/\(aZ L k+1-g').toNat<(aZ L k+1-g).toNat/\g+1=g'/\L=L/\k=k/\n=n/\void=void/\k=k/\aG L k=aG L k/\k.oid=k.oid/\(ay L k 0).value=(ay L k 0).value/\(ay L k 1).value=(ay L k 1).value/\aG L k=aG L k/\ay L k 0=ay L k 0/\ay L k 1=ay L k 1/\aG L k=aG L k/\k.oid=k.oid/\(ay L k 0).value=(ay L k 0).value/\(ay L k 1).value=(ay L k 1).value/\cw L (aX L k) g=cw L (aX L k) g'/\aG [] k=aG [] k/\Value.pointer none=Value.pointer none/\k.oid=k.oid/\(ay [] k 0).value=(ay [] k 0).value/\(ay [] k 1).value=(ay [] k 1).value/\aG [] k=aG [] k/\ay [] k 0=ay [] k 0/\ay [] k 1=ay [] k 1/\aG [] k=aG [] k/\Value.pointer none=Value.pointer none/\k.oid=k.oid/\(ay [] k 0).value=(ay [] k 0).value/\(ay [] k 1).value=(ay [] k 1).value/\aG [] k=aG [] k/\Value.pointer none=Value.pointer none/\k.oid=k.oid/\(ay [] k 0).value=(ay [] k 0).value/\(ay [] k 1).value=(ay [] k 1).value/\void=void/\false=false/\aG [] k=aG [] k/\Value.pointer none=Value.pointer none/\k.oid=k.oid/\(ay [] k 0).value=(ay [] k 0).value/\(ay [] k 1).value=(ay [] k 1).value/\r0=r0)) (az (abV g)/\aw (az (abV g)/\r0=r0/\az ((ay [] k 1).value-n)/\aw (au (!decide ((cR 1 g (abV g)).oid<=(ay [] k 1).value-n)) ((ady L k n)/\L=bN L k n) (aw (aw (∀(r0:Loop),(∃g_1,qy L k n g_1/\(ay [] k 0).value=g_1/\L=L/\k=k/\n=n/\void=void/\k=k/\aG L k=aG L k/\k.oid=k.oid/\(ay L k 0).value=(ay L k 0).value/\(ay L k 1).value=(ay L k 1).value/\aG L k=aG L k/\ay L k 0=ay L k 0/\ay L k 1=ay L k 1/\aG L k=aG L k/\k.oid=k.oid/\(ay L k 0).value=(ay L k 0).value/\(ay L k 1).value=(ay L k 1).value/\cw L (aX L k) g=cw L (aX L k) g/\aG [] k=aG [] k/\Value.pointer none=Value.pointer none/\k.oid=k.oid/\(ay [] k 0).value=(ay [] k 0).value/\(ay [] k 1).value=(ay [] k 1).value/\aG [] k=aG [] k/\ay [] k 0=ay [] k 0/\ay [] k 1=ay [] k 1/\aG [] k=aG [] k/\Value.pointer none=Value.pointer none/\k.oid=k.oid/\(ay [] k 0).value=(ay [] k 0).value/\(ay [] k 1).value=(ay [] k 1).value/\aG [] k=aG [] k/\Value.pointer none=Value.pointer none/\k.oid=k.oid/\(ay [] k 0).value=(ay [] k 0).value/\(ay [] k 1).value=(ay [] k 1).value/\cR 1 g (abV g)=cR 1 g (abV g)/\aw (aG [] k=aG [] k/\Value.pointer none=Value.pointer none/\k.oid=k.oid/\(ay [] k 0).value=(ay [] k 0).value/\(ay [] k 1).value=(ay [] k 1).value/\aQ [] g=aQ [] g/\aQ [] g=aQ [] g/\cR 1 g (abV g)=cR 1 g (abV g)/\aG [] k=aG [] k/\Value.pointer none=Value.pointer none/\k.oid=k.oid/\(ay [] k 0).value=(ay [] k 0).value/\(ay [] k 1).value=(ay [] k 1).value/\r0=r0))/\∀(g_1:Int),qy L k n g_1->au (decide (g_1<=(ay [] k 1).value)) (r0=r0/\r0=r0/\az ((ay [] k 1).value-n)/\aw (au (!(decide (g_1<=(ay [] k 1).value-n)||decide ((aQ [] g_1).kind=0)||decide ((aQ [] g_1).kind=3))) (r0=r0/\(ady L k n)/\L=bN L k n) (r0=r0/\az (g_1+1)/\∃g',qy L k n g'/\(aZ L k+1-g').toNat<(aZ L k+1- g_1).toNat/\g_1+1=g'/\L=L/\k=k/\n=n/\void=void/\k=k/\aG L k=aG L k/\k.oid=k.oid/\(ay L k 0).value=(ay L k 0).value/\(ay L k 1).value=(ay L k 1).value/\aG L k=aG L k/\ay L k 0=ay L k 0/\ay L k 1=ay L k 1/\aG L k=aG L k/\k.oid=k.oid/\(ay L k 0).value=(ay L k 0).value/\(ay L k 1).value=(ay L k 1).value/\cw L (aX L k) g=cw L (aX L k) g/\aG [] k=aG [] k/\Value.pointer none=Value.pointer none/\k.oid=k.oid/\(ay [] k 0).value=(ay [] k 0).value/\(ay [] k 1).value=(ay [] k 1).value/\aG [] k=aG [] k/\ay [] k 0=ay [] k 0/\ay [] k 1=ay [] k 1/\aG [] k=aG [] k/\Value.pointer none=Value.pointer none/\k.oid=k.oid/\(ay [] k 0).value=(ay [] k 0).value/\(ay [] k 1).value=(ay [] k 1).value/\aG [] k=aG [] k/\Value.pointer none=Value.pointer none/\k.oid=k.oid/\(ay [] k 0).value=(ay [] k 0).value/\(ay [] k 1).value=(ay [] k 1).value/\cR 1 g (abV g)=cR 1 g (abV g)/\aw (aG [] k=aG [] k/\Value.pointer none=Value.pointer none/\k.oid=k.oid/\(ay [] k 0).value=(ay [] k 0).value/\(ay [] k 1).value=(ay [] k 1).value/\aQ [] g=aQ [] g/\aQ [] g=aQ [] g/\cR 1 g (abV g)=cR 1 g (abV g)/\aG [] k=aG [] k/\Value.pointer none=Value.pointer none/\k.oid=k.oid/\(ay [] k 0).value=(ay [] k 0).value/\(ay [] k 1).value=(ay [] k 1).value/\r0=r0)))) (aw (aw (az ((ay [] k 1).value-n)/\az ((ay [] k 1).value-n+1)/\aw (aw (aw (aw (aw (az ((ay [] k 1).value-n)/\aw (aw (aw False)))))))))))))))))) (aw ((ady L k n)/\L=bN L k n))))))))))))) (aw (aw (au (!decide (0<aJ L)) ((void=cJ L k n/\1=cX L k n)/\L=bN L k n) (aw (au (!(bk L k&&decide (k.kind=4))) ((void=cJ L k n/\190=cX L k n)/\L=bN L k n) (aw (au (aF L k) ((void=cJ L k n/\220=cX L k n)/\L=bN L k n) (aw (aw (aw (∀(r0:Loop),(∃g,jI L k g/\(ay L k 0).value=g/\L=L/\k=k/\n=n/\void=void/\k=k/\aG L k=aG L k/\k.oid=k.oid/\(ay L k 0).value=(ay L k 0).value/\(ay L k 1).value=(ay L k 1).value/\aG L k=aG L k/\ay L k 0=ay L k 0/\ay L k 1=ay L k 1/\aG L k=aG L k/\k.oid=k.oid/\(ay L k 0).value=(ay L k 0).value/\(ay L k 1).value=(ay L k 1).value/\L=cw L (aX L k) g/\k=k/\aG L k=aG L k/\k.oid=k.oid/\(ay L k 0).value=(ay L k 0).value/\(ay L k 1).value=(ay L k 1).value/\aG L k=aG L k/\ay L k 0=ay L k 0/\ay L k 1=ay L k 1/\aG L k=aG L k/\k.oid=k.oid/\(ay L k 0).value=(ay L k 0).value/\(ay L k 1).value=(ay L k 1).value/\aG L k=aG L k/\k.oid=k.oid/\(ay L k 0).value=(ay L k 0).value/\(ay L k 1).value=(ay L k 1).value/\void=void/\false=false/\aG L k=aG L k/\k.oid=k.oid/\(ay L k 0).value=(ay L k 0).value/\(ay L k 1).value=(ay L k 1).value/\r0=r0)/\∀(g:Int),jI L k g->au (decide (g<=(ay L k 1).value)) (r0=r0/\r0=r0/\au (!decide ((fh L k g).kind=0)) (r0=r0/\az (g+1)/\∃g',jI L k g'/\(aZ L k+1-g').toNat<(aZ L k+1-g).toNat/\g+1=g'/\L=L/\k=k/\n=n/\void=void/\k=k/\aG L k=aG L k/\k.oid=k.oid/\(ay L k 0).value=(ay L k 0).value/\(ay L k 1).value=(ay L k 1).value/\aG L k=aG L k/\ay L k 0=ay L k 0/\ay L k 1=ay L k 1/\aG L k=aG L k/\k.oid=k.oid/\(ay L k 0).value=(ay L k 0).value/\(ay L k 1).value=(ay L k 1).value/\cw L (aX L k) g=cw L (aX L k) g'/\k=k/\aG L k=aG L k/\k.oid=k.oid/\(ay L k 0).value=(ay L k 0).value/\(ay L k 1).value=(ay L k 1).value/\aG L k=aG L k/\ay L k 0=ay L k 0/\ay L k 1=ay L k 1/\aG L k=aG L k/\k.oid=k.oid/\(ay L k 0).value=(ay L k 0).value/\(ay L k 1).value=(ay L k 1).value/\aG L k=aG L k/\k.oid=k.oid/\(ay L k 0).value=(ay L k 0).value/\(ay L k 1).value=(ay L k 1).value/\void=void/\false=false/\aG L k=aG L k/\k.oid=k.oid/\(ay L k 0).value=(ay L k 0).value/\(ay L k 1).value=(ay L k 1).value/\r0=r0) (au (decide ((fh L k g).count=4294967295)) (aw (r0=r0/\az (g+1)/\∃g',jI L k g'/\(aZ L k+1-g').toNat<(aZ L k+1-g).toNat/\g+1=g'/\L=L/\k=k/\n=n/\void=void/\k=k/\aG L k=aG L k/\k.oid=k.oid/\(ay L k 0).value=(ay L k 0).value/\(ay L k 1).value=(ay L k 1).value/\aG L k=aG L k/\ay L k 0=ay L k 0/\ay L k 1=ay L k 1/\aG L k=aG L k/\k.oid=k.oid/\(ay L k 0).value=(ay L k 0).value/\(ay L k 1).value=(ay L k 1).value/\cV (cw L (aX L k) g) g (Obj.mk 3 (fh L k g).count free.calls free.slots free.bytes)=cw L (aX L k) g'/\k=k/\aG L k=aG L k/\k.oid=k.oid/\(ay L k 0).value=(ay L k 0).value/\(ay L k 1).value=(ay L k 1).value/\aG L k=aG L k/\ay L k 0=ay L k 0/\ay L k 1=ay L k 1/\aG L k=aG L k/\k.oid=k.oid/\(ay L k 0).value=(ay L k 0).value/\(ay L k 1).value=(ay L k 1).value/\aG L k=aG L k/\k.oid=k.oid/\(ay L k 0).value=(ay L k 0).value/\(ay L k 1).value=(ay L k 1).value/\void=void/\false=false/\aG L k=aG L k/\k.oid=k.oid/\(ay L k 0).value=(ay L k 0).value/\(ay L k 1).value=(ay L k 1).value/\r0=r0)) (az (aE L k g)/\aw (az (aE L k g)/\r0=r0/\az ((ay L k 1).value-n)/\aw (au (!decide (g<=(ay L k 1).value-n)) ((ady L k n)/\L=bN L k n) (aw (aw (∀(r0:Loop),(∃g_1,qy L k n g_1/\(ay L k 0).value=g_1/\L=L/\k=k/\n=n/\void=void/\k=k/\aG L k=aG L k/\k.oid=k.oid/\(ay L k 0).value=(ay L k 0).value/\(ay L k 1).value=(ay L k 1).value/\aG L k=aG L k/\ay L k 0=ay L k 0/\ay L k 1=ay L k 1/\aG L k=aG L k/\k.oid=k.oid/\(ay L k 0).value=(ay L k 0).value/\(ay L k 1).value=(ay L k 1).value/\qM L k g=qM L k g/\k=k/\aG L k=aG L k/\k.oid=k.oid/\(ay L k 0).value=(ay L k 0).value/\(ay L k 1).value=(ay L k 1).value/\aG L k=aG L k/\ay L k 0=ay L k 0/\ay L k 1=ay L k 1/\aG L k=aG L k/\k.oid=k.oid/\(ay L k 0).value=(ay L k 0).value/\(ay L k 1).value=(ay L k 1).value/\aG L k=aG L k/\k.oid=k.oid/\(ay L k 0).value=(ay L k 0).value/\(ay L k 1).value=(ay L k 1).value/\cR 1 g (aE L k g)=cR 1 g (aE L k g)/\aw (aG L k=aG L k/\k.oid=k.oid/\(ay L k 0).value=(ay L k 0).value/\(ay L k 1).value=(ay L k 1).value/\fh L k g=fh L k g/\fh L k g=fh L k g/\cR 1 g (aE L k g)=cR 1 g (aE L k g)/\aG L k=aG L k/\k.oid=k.oid/\(ay L k 0).value=(ay L k 0).value/\(ay L k 1).value=(ay L k 1).value/\r0=r0))/\∀(g_1:Int),qy L k n g_1->au (decide (g_1<=(ay L k 1).value)) (r0=r0/\r0=r0/\az ((ay L k 1).value-n)/\aw (au (!(decide (g_1<=(ay L k 1).value-n)||decide ((aQ (qM L k g) g_1).kind=0)||decide ((aQ (qM L k g) g_1).kind=3))) (r0=r0/\(ady L k n)/\L=bN L k n) (r0=r0/\az (g_1+1)/\∃g',qy L k n g'/\(aZ L k+1-g').toNat<(aZ L k+1-g_1).toNat/\g_1+1=g'/\L=L/\k=k/\n=n/\void=void/\k=k/\aG L k=aG L k/\k.oid=k.oid/\(ay L k 0).value=(ay L k 0).value/\(ay L k 1).value=(ay L k 1).value/\aG L k=aG L k/\ay L k 0=ay L k 0/\ay L k 1=ay L k 1/\aG L k=aG L k/\k.oid=k.oid/\(ay L k 0).value=(ay L k 0).value/\(ay L k 1).value=(ay L k 1).value/\qM L k g=qM L k g/\k=k/\aG L k=aG L k/\k.oid=k.oid/\(ay L k 0).value=(ay L k 0).value/\(ay L k 1).value=(ay L k 1).value/\aG L k=aG L k/\ay L k 0=ay L k 0/\ay L k 1=ay L k 1/\aG L k=aG L k/\k.oid=k.oid/\(ay L k 0).value=(ay L k 0).value/\(ay L k 1).value=(ay L k 1).value/\aG L k=aG L k/\k.oid=k.oid/\(ay L k 0).value=(ay L k 0).value/\(ay L k 1).value=(ay L k 1).value/\cR 1 g (aE L k g)=cR 1 g (aE L k g)/\aw (aG L k=aG L k/\k.oid=k.oid/\(ay L k 0).value=(ay L k 0).value/\(ay L k 1).value=(ay L k 1).value/\fh L k g=fh L k g/\fh L k g=fh L k g/\cR 1 g (aE L k g)=cR 1 g (aE L k g)/\aG L k=aG L k/\k.oid=k.oid/\(ay L k 0).value=(ay L k 0).value/\(ay L k 1).value=(ay L k 1).value/\r0=r0)))) (aw (aw (az ((ay L k 1).value-n)/\az ((ay L k 1).value-n+1)/\aw (aw (aw (aw (aw (az ((ay L k 1).value-n)/\aw (aw (aw ((aK L).le 1000/\au (kb L (mM L k n g)) ((∃g_2,sC L (bN L k n) g_2/\Value.slice none 0 0=Value.slice none 0 0/\0=g_2/\L=mX L (bN L k n) g_2/\k=k/\n=n/\void=void/\k=k/\aG L k=aG L k/\k.oid=k.oid/\(ay L k 0).value=(ay L k 0).value/\(ay L k 1).value=(ay L k 1).value/\aG L k=aG L k/\ay L k 0=ay L k 0/\ay L k 1=ay L k 1/\aG L k=aG L k/\k.oid=k.oid/\(ay L k 0).value=(ay L k 0).value/\(ay L k 1).value=(ay L k 1).value/\mM L k n g=mM L k n g/\k=k/\aG L k=aG L k/\k.oid=k.oid/\(ay L k 0).value=(ay L k 0).value/\(ay L k 1).value=(ay L k 1).value/\aG L k=aG L k/\ay L k 0=ay L k 0/\ay L k 1=ay L k 1/\aG L k=aG L k/\k.oid=k.oid/\(ay L k 0).value=(ay L k 0).value/\(ay L k 1).value=(ay L k 1).value/\aG L k=aG L k/\k.oid=k.oid/\(ay L k 0).value=(ay L k 0).value/\(ay L k 1).value=(ay L k 1).value/\cR 1 g (aE L k g)=cR 1 g (aE L k g)/\aw (aG L k=aG L k/\k.oid=k.oid/\(ay L k 0).value=(ay L k 0).value/\(ay L k 1).value=(ay L k 1).value/\fh L k g=fh L k g/\fh L k g=fh L k g/\cR 1 g (aE L k g)=cR 1 g (aE L k g)/\aG L k=aG L k/\k.oid=k.oid/\(ay L k 0).value=(ay L k 0).value/\(ay L k 1).value=(ay L k 1).value/\D1 L k n g=D1 L k n g/\o5 ((ay L k 1).value-n+1)=o5 ((ay L k 1).value-n+1)/\o5 (ay L k 1).value=o5 (ay L k 1).value/\Eh L k n g=Eh L k n g/\o5 ((ay L k 1).value-n)=o5 ((ay L k 1).value-n)))/\∀(g_2:Int),sC L (bN L k n) g_2->au (decide (g_2<0)) False (adx g L k n g_2)) ((∃g_2,sC L (bN L k n) g_2/\bV (aK (dM L (mM L k n g)))=bV (aK (dM L (mM L k n g)))/\0=g_2/\L=mX L (bN L k n) g_2/\k=k/\n=n/\void=void/\k=k/\aG L k=aG L k/\k.oid=k.oid/\(ay L k 0).value=(ay L k 0).value/\(ay L k 1).value=(ay L k 1).value/\aG L k=aG L k/\ay L k 0=ay L k 0/\ay L k 1=ay L k 1/\aG L k=aG L k/\k.oid=k.oid/\(ay L k 0).value=(ay L k 0).value/\(ay L k 1).value=(ay L k 1).value/\mM L k n g=mM L k n g/\k=k/\aG L k=aG L k/\k.oid=k.oid/\(ay L k 0).value=(ay L k 0).value/\(ay L k 1).value=(ay L k 1).value/\aG L k=aG L k/\ay L k 0=ay L k 0/\ay L k 1=ay L k 1/\aG L k=aG L k/\k.oid=k.oid/\(ay L k 0).value=(ay L k 0).value/\(ay L k 1).value=(ay L k 1).value/\aG L k=aG L k/\k.oid=k.oid/\(ay L k 0).value=(ay L k 0).value/\(ay L k 1).value=(ay L k 1).value/\cR 1 g (aE L k g)=cR 1 g (aE L k g)/\aw (aG L k=aG L k/\k.oid=k.oid/\(ay L k 0).value=(ay L k 0).value/\(ay L k 1).value=(ay L k 1).value/\fh L k g=fh L k g/\fh L k g=fh L k g/\cR 1 g (aE L k g)=cR 1 g (aE L k g)/\aG L k=aG L k/\k.oid=k.oid/\(ay L k 0).value=(ay L k 0).value/\(ay L k 1).value=(ay L k 1).value/\D1 L k n g=D1 L k n g/\o5 ((ay L k 1).value-n+1)=o5 ((ay L k 1).value-n+1)/\o5 (ay L k 1).value=o5 (ay L k 1).value/\Eh L k n g=Eh L k n g/\o5 ((ay L k 1).value-n)=o5 ((ay L k 1).value-n)/\dM L (mM L k n g)=dM L (mM L k n g)))/\∀(g_2:Int),sC L (bN L k n) g_2->au (decide (g_2<bV (aK (dM L (mM L k n g))))) ((0<=g_2/\g_2< ↑(aK (dM L (mM L k n g))))/\g_2.toNat<aK (dM L (mM L k n g))/\aw (az (g_2+1)/\∃g',sC L (bN L k n) g'/\(bV (aK (dM L (bN L k n)))-g').toNat<(bV (aK (dM L (bN L k n)))-g_2).toNat/\bV (aK (dM L (mM L k n g)))=bV (aK (dM L (mM L k n g)))/\g_2+1=g'/\cV (mX L (bN L k n) g_2) (aL (dM L (mM L k n g)) g_2.toNat 0) (aQ (mM L k n g) (aL (dM L (mM L k n g)) g_2.toNat 0))=mX L (bN L k n) g'/\k=k/\n=n/\void=void/\k=k/\aG L k=aG L k/\k.oid=k.oid/\(ay L k 0).value=(ay L k 0).value/\(ay L k 1).value=(ay L k 1).value/\aG L k=aG L k/\ay L k 0=ay L k 0/\ay L k 1=ay L k 1/\aG L k=aG L k/\k.oid=k.oid/\(ay L k 0).value=(ay L k 0).value/\(ay L k 1).value=(ay L k 1).value/\mM L k n g=mM L k n g/\k=k/\aG L k=aG L k/\k.oid=k.oid/\(ay L k 0).value=(ay L k 0).value/\(ay L k 1).value=(ay L k 1).value/\aG L k=aG L k/\ay L k 0=ay L k 0/\ay L k 1=ay L k 1/\aG L k=aG L k/\k.oid=k.oid/\(ay L k 0).value=(ay L k 0).value/\(ay L k 1).value=(ay L k 1).value/\aG L k=aG L k/\k.oid=k.oid/\(ay L k 0).value=(ay L k 0).value/\(ay L k 1).value=(ay L k 1).value/\cR 1 g (aE L k g)=cR 1 g (aE L k g)/\aw (aG L k=aG L k/\k.oid=k.oid/\(ay L k 0).value=(ay L k 0).value/\(ay L k 1).value=(ay L k 1).value/\fh L k g=fh L k g/\fh L k g=fh L k g/\cR 1 g (aE L k g)=cR 1 g (aE L k g)/\aG L k=aG L k/\k.oid=k.oid/\(ay L k 0).value=(ay L k 0).value/\(ay L k 1).value=(ay L k 1).value/\D1 L k n g=D1 L k n g/\o5 ((ay L k 1).value-n+1)=o5 ((ay L k 1).value-n+1)/\o5 (ay L k 1).value=o5 (ay L k 1).value/\Eh L k n g=Eh L k n g/\o5 ((ay L k 1).value-n)=o5 ((ay L k 1).value-n)/\dM L (mM L k n g)=dM L (mM L k n g)))) (adx g L k n g_2))))))))))))))))))))) (aw ((ady L k n)/\L=bN L k n))))))))))))))))))))))):=by
 delta au ay ady adx abV aF aE az aw
 refine⟨rfl,rfl,fun h=>pW (vf (IE h) (by omega)) (by omega),fun h=>⟨rfl,fun h2=>pW (vf (bk2 h h2) (by omega)) (by omega),fun h2=>⟨rfl,fun h3=>pW (vf (bk3 h h2 h3) (by omega)) (by omega),fun h3=>?_⟩⟩⟩
 obtain⟨e,e1,e2⟩:=WN h h2 h3;obtain⟨_,a0,a1,a2,a3,a4⟩:=kx e;have hkd:=Bz (nO h2).1 (nO h2).2;have hlen:=fJ hL;have hll:aK L=L.length:=rfl;have h3':=h3;rw[e1,e2]at h3';rw[e1,e2];have hr:∀x:Int,-1000<=x->x<=1000->bh IntKind.i64 x:=fun x h1 h2=>by simp only[bh,cB];omega
 refine⟨fun _=>hr _ (by omega) (by omega),rfl,fun h4=>pW (LD e (by simp only[Bool.not_eq_true',Bool.and_eq_false_iff,decide_eq_false_iff_not]at h4;omega)) (by omega),fun h4=>⟨rfl,(show L.length<=1000 by omega),fun hn=>?_,fun _=>⟨rfl,rfl,fun h'=>?_,fun _=>⟨rfl,fun h'=>?_,fun _=>⟨rfl,fun h'=>?_,fun _=>⟨rfl,rfl,rfl,fun r0=>?_⟩⟩⟩⟩⟩⟩
 ·exfalso
  have:=ak hn;omega
 ·rw[h]at h';exact absurd h' (by decide)
 ·rw[h2]at h';exact absurd h' (by decide)
 ·rw[h3']at h';exact absurd h' (by decide)
 simp only[Bool.not_eq_false',af,ah]at h4;obtain⟨hn1,hn2⟩:=h4;have h0:=Wh e hn1 hn2;have hcnt:∀j:Nat,j<L.length->0<=(aL L j free).count/\(aL L j free).count<=4294967295:=fun j hj=>⟨(ly (dA hL j hj)).1,(ly (dA hL j hj)).2.1⟩
 have hci:∀j:Nat,j<L.length->bh IntKind.i64 ((aL L j free).count+1):=fun j hj=>by have:=hcnt j hj;simp only[bh,cB];omega
 refine⟨⟨aX L k,⟨by omega,by omega,zJ⟩,rfl,?_⟩,fun g hg=>⟨fun hgl=>?_,fun hgl=>?_⟩⟩
 ·have hx:L=cw L (aX L k) (aX L k):=Fw;(repeat' apply And.intro)<;>first|with_reducible rfl|exact hx
 ·obtain⟨g0,g1,g2⟩:=hg;have hgl:=ak hgl;have hgn:g.toNat<L.length:=by omega
  have hgz:(cw L (aX L k) g).length=L.length:=lA;have hO:fh L k g=aL L g.toNat free:=by unfold fh;rw[ij (by omega) (by omega),GR (by omega)]
  refine⟨rfl,rfl,fun hk0=>?_,fun hk0=>⟨fun hc=>?_,fun hc=>?_⟩⟩
  ·obtain⟨f1,f2⟩:=Kx (o:=aL L g.toNat free) (by rw[<-hO];simpa using hk0)
   have hx:cw L (aX L k) g=cw L (aX L k) (g+1):=(EJ (by omega) f1).symm
   refine⟨rfl,hr _ (by omega) (by omega),g+1,⟨by omega,by omega,qj g2 f2⟩,by omega,rfl,?_⟩
   (repeat' apply And.intro)<;>first|with_reducible rfl|exact hx
  ·rw[hO]at hk0 hc;obtain⟨f1,f2⟩:=R5 (o:=aL L g.toNat free) (by simpa using hk0) (by have:=ak hc;omega)
   have hp:=(mn (L:=cw L (aX L k) g) (i:=g) (by omega) (by omega) (hgz▸DN (dA hL g.toNat hgn))).1
   have hx:cV (cw L (aX L k) g) g (Obj.mk 3 (fh L k g).count free.calls free.slots free.bytes)=cw L (aX L k) (g+1):=by rw[hO];exact hp.trans (JD (by omega) (by omega) g0 f1)
   refine⟨rfl,rfl,hr _ (by omega) (by omega),g+1,⟨by omega,by omega,qj g2 f2⟩,by omega,rfl,?_⟩
   (repeat' apply And.intro)<;>first|with_reducible rfl|exact hx
  ·rw[hO]at hk0 hc;have hc:=aj hc;have:=hcnt _ hgn;obtain⟨f1,f2⟩:=RY (o:=aL L g.toNat free) (by simpa using hk0) (by omega)
   obtain⟨i1,i2,i3,i4,i5,i6,i7,i8⟩:=Xd hL e hkd g0 hgl g2 f2;have hcg:bh IntKind.i64 ((fh L k g).count+1):=by rw[hO];exact hci _ hgn
   refine⟨hcg,rfl,hcg,rfl,hr _ (by omega) (by omega),rfl,fun hc2=>pW (Fh h0 (.inr (by rw[i1];simp only[Bool.not_eq_true',decide_eq_false_iff_not]at hc2;omega))) (by omega),fun hc2=>⟨rfl,rfl,fun r1=>⟨⟨aX L k,⟨by omega,by omega,JM (by omega)⟩,rfl,?_⟩,fun j hj=>⟨fun hjl=>?_,fun hjl=>?_⟩⟩⟩⟩
   ·(repeat' apply And.intro)<;>first|with_reducible rfl|exact hx
   ·obtain⟨j0,j1,j2⟩:=hj;have hjl:=ak hjl;have hgj:aQ (qM L k g) j=aL (dP L k) j.toNat free:=by rw[i3];exact ij (by omega) (by omega)
    rw[hgj];have hkk:=ly (dA i5 j.toNat (by omega))
    refine⟨rfl,rfl,hr _ (by omega) (by omega),rfl,fun hb=>⟨rfl,?_⟩,fun hb=>⟨rfl,hr _ (by omega) (by omega),j+1,⟨by omega,by omega,?_⟩,by omega,rfl,?_⟩⟩
    ·simp only[Bool.not_eq_true',Bool.or_eq_false_iff,decide_eq_false_iff_not]at hb;have hbz:mU (aL (dP L k) j.toNat free)=true:=by unfold mU;simp only[Bool.or_eq_true,ah];omega
     exact pW (MC h0 (RK (by omega) (by omega) (by omega) (by omega) hbz)) (by omega)
    ·simp only[Bool.not_eq_false',Bool.or_eq_true,ah]at hb;by_cases hjn:j<=aZ L k-n
     ·exact JM (by omega)
     ·have hbz:mU (aL (dP L k) j.toNat free)=false:=by unfold mU;simp only[Bool.or_eq_false_iff,decide_eq_false_iff_not];omega
      rw[Ul (by omega) hbz];exact j2
    ·(repeat' apply And.intro)<;>first|with_reducible rfl|exact hx
   ·obtain⟨j0,j1,j2⟩:=hj;have hjl:=aj hjl;have:j=aZ L k+1:=by omega
    subst this;simp only[Bool.not_eq_false',ah]at hc2;have hE:=WA h0 (by rw[i1];omega) (by rw[i1];omega) j2
    obtain⟨l1,l2,l3,l4⟩:=Wl hL e hkd e2 g0 hgl g2 f2 hE;rw[l1];have hul:(dM L (bN L k n)).length<=L.length:=TK;have hu:bV (aK (dM L (bN L k n)))=((dM L (bN L k n)).length:Int):=rfl
    refine⟨rfl,rfl,hr _ (by omega) (by omega),hr _ (by omega) (by omega),rfl,rfl,rfl,rfl,rfl,hr _ (by omega) (by omega),rfl,rfl,rfl,(show L.length<=1000 by omega),fun hno=>?_,fun _=>⟨⟨0,⟨by omega,by omega⟩,rfl,rfl,?_⟩,fun t ht=>⟨fun htl=>?_,fun htl=>⟨⟨l4,hE.symm⟩,S0 l3 l2 ?_⟩⟩⟩⟩
    ·rw[QL l3 (by omega)]at hno;exact absurd hno (by decide)
    ·have hx:L=mX L (bN L k n) 0:=rfl;(repeat' apply And.intro)<;>first|with_reducible rfl|exact hx
    ·obtain⟨t0,t1⟩:=ht;have htl:=ak htl;rw[hu]at htl;have hx:cV (mX L (bN L k n) t) (aL (dM L (bN L k n)) t.toNat 0) (aQ (bN L k n) (aL (dM L (bN L k n)) t.toNat 0))=mX L (bN L k n) (t+1):=OC t0;refine⟨⟨t0,htl⟩,(show t.toNat<(dM L (bN L k n)).length by omega),rfl,hr _ (by omega) (by omega),t+1,⟨by omega,by omega⟩,by rw[hu];omega,rfl,rfl,?_⟩
     (repeat' apply And.intro)<;>first|with_reducible rfl|exact hx
    ·have htl:=aj htl;rw[hu]at htl;obtain⟨t0,t1⟩:=ht;omega
 ·obtain⟨g0,g1,g2⟩:=hg;have hgl:=aj hgl;have:g=aZ L k+1:=by omega
  subst this;obtain⟨m1,m2,m3⟩:=OD 1 g2;exact⟨rfl,pW (Fh h0 (.inl (by unfold eU;rw[m1];omega))) (by omega)⟩
theorem Aq[Fen](hn:Fen.nar)(L:List Sx.Obj)(k:Key)(n:Int)(hL:aO L):aM Tryz.prog 158 [.lp 0 0,.key k,.it .i64 n] [.store tS eS L] (Bb (.tp [.key (cJ L k n),.it .i64 (cX L k n)]) (bN L k n)) (fun _ _=>False):=
 L0 hn (inl:=(aeq [205,204,209,210,211,212,213,214,1000000+223])) (ann:=(lf [(3000+223,1,lpR [0,1] (fun g=> [(3,.it .i64 g)]) 11 (fun g=> .store tS eS (cw L (aX L k) g)) (jI L k) (DE (aZ L k) 1)),(9000+223,1,WX [0,1] (fun g=> [(3,.it .i64 g)]) (qy L k n) (DE (aZ L k) 1)),(158,16,lpR [0,6,7,9,10,90,91] (fun g=> [(92,.it .i64 g)]) 0 (fun g=> .store tS eS (mX L (bN L k n) g)) (sC L (bN L k n)) (bV (aK (dM L (bN L k n)))))])) (aH bF (aH bT (aH fi (aH s7 aP)))) (aW dI (aW tc (aW H7 aT))) (ek iq) (LO L k n hL) (by kernel_rfl)
theorem Lf[Fen](L:List Sx.Obj)(k:Key)(n:Int)(hL:aO L):aM Tryz.prog 158 [.lp 0 0,.key k,.it .i64 n] [.store tS eS L] (Bb (.tp [.key (cJ L k n),.it .i64 (cX L k n)]) (bN L k n)) (fun _ _=>False):=by
 by_cases hn:Fen.nar
 ·exact Aq hn L k n hL
 ·exact aM.lift (i:=⟨True⟩) hn (@Aq ⟨True⟩ trivial L k n hL)
theorem KG[Fen]:l5 Tryz.prog 158 QE:=
 nZ (m:=fun x=>kiB.cn x 0) (pc Nc (fun _=>rfl)) (fun _=>rfl) (fun _ _=>rfl) (fun x=>bm (inl:=(aeq [205,204,209,210,211,212,213,214,1000000+223])) (ann:=bn) (aH bF (aH bT (aH fi (aH s7 aP)))) (aW dI (aW tc (aW H7 aT))) (ek iq) (Ho x.1 x.2.1) (by kernel_rfl)) (fun x=>bm (inl:=(aeq [205,204,209,210,211,212,213,214,1000000+223])) (ann:=bn) (aH bF (aH bT (aH fi (aH s7 aP)))) (aW dI (aW tc (aW H7 aT))) (ek iq) (Ik x.1 x.2.1) (by kernel_rfl)) fun L x hL _ _=>Lf L x.1 x.2.1 hL
end Go.Proofs.YtmfbohanboiklaaGreat
namespace Go.Sx
def bW(h:Int):Int:=64*16^(h-1).toNat
def qA(h:Int):Prop:=0<=h/\h<=9
def D0(h g:Int):Prop:=0<=g/\(g=0\/g<=h-1)
def ZW:Ct:=FN (bJ iA jP) (fun x=>some (qA x.1)) fun x=> .it .i64 (bW x.1)
structure Wk where
 pos:Key
 adr:Int
 rts:Int
 kpr:Key
 dep:Int
 hi:Int
structure Wr where
 kd:Int
 pos:Key
 adr:Int
 kpr:Key
 dep:Int
def wr0:Wr:=⟨0,void,0,void,0⟩
def abZ(r m g:Int):Int:=r+(if 2<=g/\(kT m 1&& !kT r 1)=true then 1 else 0)+(if 4<=g/\(kT m 2&& !kT r 2)=true then 2 else 0)+(if 8<=g/\(kT m 4&& !kT r 4)=true then 4 else 0)
def uD(r m:Int):Int:=abZ r m 8
def ri(r:Int)(p:Key):Key:=if r.tmod 4=0 then p else cU p 1
def rN(w:Wk)(h:Key):Bool:=decide (h.kind=1)&&decide (1<=h.value)&&decide (h.value<=8)&&(decide (w.dep=0)||decide (h.value<w.hi))
def EF(r:Int)(k was:Key):Key:=if k.kind=6/\r<4 then k else was
def mw(L:List Obj)(w:Wk)(p:Key)(h k:Key):Wr×Option Wk:=
 if 8<=w.dep then(⟨3,void,0,w.kpr,0⟩,none)
 else if rN w h then
  (if w.adr.tdiv (bW h.value)<14 then(wr0,some ⟨e9 L p (w.adr.tdiv (bW h.value)),w.adr.tmod (bW h.value),uD w.rts p.rights,EF (uD w.rts p.rights) k w.kpr,w.dep+1,h.value⟩)
   else(⟨2,void,0,EF (uD w.rts p.rights) k w.kpr,0⟩,none))
 else(⟨4,void,0,w.kpr,0⟩,none)
def SQ(L:List Obj):Nat->Wk->Wr
 |0,w=>⟨3,void,0,w.kpr,0⟩
 |n+1,w=>
  if(aI L w.pos).kind=3 then(if w.adr<64 then⟨0,ri w.rts (aI L w.pos),w.adr,w.kpr,w.dep⟩else⟨2,void,0,w.kpr,0⟩)
  else if(aI L w.pos).kind=2 then match mw L w (aI L w.pos) (e9 L (cU (aI L w.pos) 0) 15) (e9 L (cU (aI L w.pos) 0) 14)with
   | (r,none)=>r
   | (_,some w')=>SQ L n w'
  else⟨1,void,0,w.kpr,0⟩
def jM(L:List Obj)(n:Nat)(w:Wk):Wr:=SQ L n w
def y6(k:Key)(a hi:Int):Wk:=⟨k,a,0,void,0,hi⟩
def fu(L:List Obj)(k:Key)(a:Int):Int:=if aK L=0 then 1 else if cS L k then(if a<0 then 4 else 0)else 2
def aV(L:List Obj)(k:Key)(a:Int):Wr:=if fu L k a=0 then jM L 9 (y6 k a 0)else wr0
def eo(r:Wr):Key:=if r.kd=0 then r.pos else void
def ee(r:Wr):Int:=if r.kd=0 then r.adr else 0
def eK(r:Wr):Key:=if r.kd=0 then r.kpr else void
def fo(r:Wr):Int:=if r.kd=0 then r.dep else 0
def ix(r:Wr):Key:=if r.kd=0 then void else r.kpr
def iw(r:Wr)(a:Int):Int:=if r.kd=0 then 0 else a
def gP(r:Wr):Int:=r.kd
def aa6(r:Wr):V:= .ag [.key (eo r),.it .i64 (ee r),.key (eK r),.it .i64 (fo r)]
def ac2(r:Wr)(a:Int):V:= .ag [.it .i64 (gP r),.key (ix r),.it .i64 (iw r a)]
def Qd(L:List Obj)(k:Key)(a:Int):V:= .tp [aa6 (aV L k a),ac2 (aV L k a) a,.it .i64 (fu L k a)]
abbrev tW:Nat:=296
def wkV(s:V)(g:Wk):V:= .ag [s,.key g.pos,.it .i64 g.adr,.it .i64 g.rts,.key g.kpr,.it .i64 g.dep,.it .i64 g.hi,.cb false]
def tj(L:List Obj)(k:Key)(a hi:Int)(g:Wk):Prop:=
 (0<=g.adr/\g.adr<=a)/\(0<=g.rts/\g.rts<=7)/\(0<=g.dep/\g.dep<=8)/\(g.dep=0->g.hi=hi)/\(g.dep≠0->g.hi<=8)/\jM L (9-g.dep).toNat g=jM L 9 (y6 k a hi)
def wI(g:Wk):Nat:=(9-g.dep).toNat
def ZY:Ct:=FN (bJ sA (bJ kA (bJ iA jP))) (fun _=>none) fun x=>Qd (vP x.1) x.2.1 x.2.2.1
def spX(nid:Nat):V:= .mp nid
def spN(nid:Nat):List aS:= [.mp .i64 [3,2] [.fn 234 [],.fn 235 []]]
theorem KQ{g:Int}(h:1<=g):bW g*16=bW (g+1):=by
 unfold bW;have e:(g+1-1).toNat=(g-1).toNat+1:=by omega
 rw[e,Int.pow_succ];generalize (16:Int)^(g-1).toNat=x
 omega
theorem vg{h:Int}(hh:h<=1):bW h=64:=by
 unfold bW;have e:(h-1).toNat=0:=by omega
 rw[e];rfl
theorem yu{h:Int}(hh:h<=9):64<=bW h/\bW h<=274877906944:=by
 by_cases h1:h<=1
 ·rw[vg h1];omega
 have:h=2\/h=3\/h=4\/h=5\/h=6\/h=7\/h=8\/h=9:=by omega
 rcases this with rfl|rfl|rfl|rfl|rfl|rfl|rfl|rfl<;>decide
theorem ZI:∀r m:Fin 8,bu .or .i64 (r.val:Int) (m.val:Int)=uD (r.val:Int) (m.val:Int)/\0<=uD (r.val:Int) (m.val:Int)/\uD (r.val:Int) (m.val:Int)<=7:=by decide
theorem Iu{r:Int}(h0:0<=r)(h1:r<=7):∃x:Fin 8,(x.val:Int)=r:=⟨⟨r.toNat,by omega⟩,by simp;omega⟩
theorem abz{r m:Int}(h0:0<=r)(h1:r<=7)(m0:0<=m)(m1:m<=7):bu .or .i64 r m=uD r m/\0<=uD r m/\uD r m<=7:=by
 obtain⟨x,rfl⟩:=Iu h0 h1;obtain⟨y,rfl⟩:=Iu m0 m1;exact ZI x y
theorem NA:∀r:Fin 8,decide (bu .and .i64 (r.val:Int) 4=0)=decide ((r.val:Int)<4):=by decide
theorem acW{r:Int}(h0:0<=r)(h1:r<=7):decide (bu .and .i64 r 4=0)=decide (r<4):=by
 obtain⟨x,rfl⟩:=Iu h0 h1;exact NA x
theorem IU{L:List Obj}{k:Key}(h:(aI L k).kind=2\/(aI L k).kind=3):aI L k=k/\bk L k=true:=by
 unfold aI at h⊢;split at h
 ·simp[void]at h
 ·rename_i hn;rw[aq hn];refine⟨rfl,?_⟩;simp only[Bool.or_eq_true,Bool.not_eq_true',af,not_or,Bool.not_eq_true,not_and]at hn;obtain⟨⟨h1,h2⟩,h3⟩:=hn;have hk:aR k=true:=by simpa using h2
  have:bc k=true:=by
   unfold bc cG;rw[hk];rcases h with h|h<;>simp[h]
  have:=h3 this;simpa using this
theorem aaP{k:Key}(h:aR k=true)(h2:k.kind=2):Key.mk 2 k.oid k.count void.call void.rights void.value=cU k 0:=by
 obtain⟨a,b,c,d,e,f⟩:=k;simp only at h2;subst h2;simp[aR,eH,cG,fD,jc]at h;simp[cU,void];omega
theorem aab{L:List Obj}{k:Key}(h:bk L k=true)(h2:k.kind=2):bk L (cU k 0)=true:=by
 have hk:=(eT h).1
 have hk':aR (cU k 0)=true:=by
  have hk1:=hk;simp only[aR,af,ah]at hk1⊢;obtain⟨⟨⟨⟨⟨⟨⟨x1,x2⟩,x3⟩,x4⟩,x5⟩,x6⟩,x7⟩,x8⟩:=hk1;exact⟨⟨⟨⟨⟨⟨⟨x1,x2⟩,Int.le_refl 0⟩,by show 0<=dg k.kind;omega⟩,x5⟩,x6⟩,x7⟩,x8⟩
 have hn:cx (cU k 0)=cx k:=by unfold cx;rw[hk,hk'];rfl
 have hw:jo (cU k 0)=jo k:=by unfold jo;rw[hn];rfl
 have hc:∀o,cW (cU k 0) o=cW k o:=fun o=>by unfold cW;rw[hn,hw,hk,hk'];rfl
 have hd:bc (cU k 0)=bc k:=by unfold bc;rw[hk,hk'];rfl
 unfold bk at h⊢;rw[hd,hc];exact h
theorem HJ{L:List Obj}{k:Key}{i:Int}(h:bk L k=true)(h2:k.kind=2)(h0:0<=i)(h1:i<16):bf L k i=e9 L k i:=by
 have hl:=eT h
 have hA:bq L k 2 false=0:=by
  unfold bq;rw[aq (by have:=hl.2.1;have:=hl.2.2.1;unfold aK;omega),aq (by rw[h,h2];simp),aq (by simp)]
 unfold bf dB lh;rw[hA,ar rfl,decide_eq_true h0,decide_eq_true h1];rfl
theorem R9{L:List Obj}{k:Key}{i:Int}(h:bk L k=true)(h2:k.kind=2)(h0:0<=i)(h1:i<16):bf L (Key.mk 2 k.oid k.count void.call void.rights void.value) i=e9 L (cU k 0) i:=by
 rw[aaP (eT h).1 h2];exact HJ (aab h h2) h2 h0 h1
theorem go_eq{L:List Obj}{g:Wk}(h0:0<=g.dep)(h8:g.dep<=8):jM L (9-g.dep).toNat g=
  if(aI L g.pos).kind=3 then(if g.adr<64 then⟨0,ri g.rts (aI L g.pos),g.adr,g.kpr,g.dep⟩else⟨2,void,0,g.kpr,0⟩)
  else if(aI L g.pos).kind=2 then match mw L g (aI L g.pos) (e9 L (cU (aI L g.pos) 0) 15) (e9 L (cU (aI L g.pos) 0) 14)with
   | (r,none)=>r
   | (_,some w')=>jM L (8-g.dep).toNat w'
  else⟨1,void,0,g.kpr,0⟩:=by
 have e:(9-g.dep).toNat=(8-g.dep).toNat+1:=by omega
 rw[e];rfl
theorem Vs{L:List Obj}{g:Wk}(h0:0<=g.dep)(h8:g.dep<=8)(h3:(aI L g.pos).kind≠3)(h2:(aI L g.pos).kind≠2):jM L (9-g.dep).toNat g=⟨1,void,0,g.kpr,0⟩:=by
 rw[go_eq h0 h8,aq h3,aq h2]
theorem aat{L:List Obj}{g:Wk}(h0:0<=g.dep)(h8:g.dep<=8)(h3:(aI L g.pos).kind=3)(h:¬g.adr<64):jM L (9-g.dep).toNat g=⟨2,void,0,g.kpr,0⟩:=by
 rw[go_eq h0 h8,ar h3,aq h]
theorem JG{L:List Obj}{g:Wk}(h0:0<=g.dep)(h8:g.dep<=8)(h3:(aI L g.pos).kind=3)(h:g.adr<64):jM L (9-g.dep).toNat g=⟨0,ri g.rts (aI L g.pos),g.adr,g.kpr,g.dep⟩:=by
 rw[go_eq h0 h8,ar h3,ar h]
theorem aaC{L:List Obj}{g:Wk}(h0:0<=g.dep)(h8:g.dep<=8)(h2:(aI L g.pos).kind=2)(h:¬g.dep<8):jM L (9-g.dep).toNat g=⟨3,void,0,g.kpr,0⟩:=by
 rw[go_eq h0 h8,aq (by omega),ar h2,mw,ar (by omega)]
theorem UG{L:List Obj}{g:Wk}(h0:0<=g.dep)(h8:g.dep<=8)(h2:(aI L g.pos).kind=2)(h:g.dep<8)(hf:rN g (e9 L (cU (aI L g.pos) 0) 15)=false):jM L (9-g.dep).toNat g=⟨4,void,0,g.kpr,0⟩:=by
 rw[go_eq h0 h8,aq (by omega),ar h2,mw,aq (by omega),hf]
 rfl
theorem J2{L:List Obj}{g:Wk}(h0:0<=g.dep)(h8:g.dep<=8)(h2:(aI L g.pos).kind=2)(h:g.dep<8)(hf:rN g (e9 L (cU (aI L g.pos) 0) 15)=true)
  (hs:¬g.adr.tdiv (bW (e9 L (cU (aI L g.pos) 0) 15).value)<14):jM L (9-g.dep).toNat g=⟨2,void,0,EF (uD g.rts (aI L g.pos).rights) (e9 L (cU (aI L g.pos) 0) 14) g.kpr,0⟩:=by
 rw[go_eq h0 h8,aq (by omega),ar h2,mw,aq (by omega),hf,ar rfl,aq hs]
def SU(L:List Obj)(g:Wk):Wk:=⟨e9 L (aI L g.pos) (g.adr.tdiv (bW (e9 L (cU (aI L g.pos) 0) 15).value)),g.adr.tmod (bW (e9 L (cU (aI L g.pos) 0) 15).value),uD g.rts (aI L g.pos).rights,
 EF (uD g.rts (aI L g.pos).rights) (e9 L (cU (aI L g.pos) 0) 14) g.kpr,g.dep+1,(e9 L (cU (aI L g.pos) 0) 15).value⟩
theorem Tn{L:List Obj}{g:Wk}(h0:0<=g.dep)(h8:g.dep<=8)(h2:(aI L g.pos).kind=2)(h:g.dep<8)(hf:rN g (e9 L (cU (aI L g.pos) 0) 15)=true)
  (hs:g.adr.tdiv (bW (e9 L (cU (aI L g.pos) 0) 15).value)<14):jM L (9-g.dep).toNat g=jM L (9-(g.dep+1)).toNat (SU L g):=by
 rw[go_eq h0 h8,aq (by omega),ar h2,mw,aq (by omega),hf,ar rfl,ar hs]
 have e:(9-(g.dep+1)).toNat=(8-g.dep).toNat:=by omega
 rw[e];rfl
theorem D4{g:Wk}{h:Key}:rN g h=true↔h.kind=1/\1<=h.value/\h.value<=8/\(g.dep=0\/h.value<g.hi):=by
 simp[rN,and_assoc]
theorem we{a e:Int}(h0:0<=a)(he:64<=e):0<=a.tdiv e/\a.tdiv e<=a/\0<=a.tmod e/\a.tmod e<=a:=by
 rw[Int.tdiv_eq_ediv_of_nonneg h0,Int.tmod_eq_emod_of_nonneg h0];have h1:=Int.ediv_nonneg h0 (show 0<=e by omega)
 have h2:=Int.ediv_le_self e h0;have h3:=Int.emod_nonneg a (show e≠0 by omega)
 have h4:=Int.emod_add_mul_ediv a e;have h5:=Int.mul_nonneg (show 0<=e by omega) h1
 omega
theorem Xb{L:List Obj}{k:Key}{a hi:Int}{g:Wk}(hI:tj L k a hi g)(h2:(aI L g.pos).kind=2)(h:g.dep<8)(hf:rN g (e9 L (cU (aI L g.pos) 0) 15)=true)
  (hs:g.adr.tdiv (bW (e9 L (cU (aI L g.pos) 0) 15).value)<14):tj L k a hi (SU L g)/\wI (SU L g)<wI g:=by
 obtain⟨⟨a1,a2⟩,⟨r1,r2⟩,⟨d1,d2⟩,e1,e2,e3⟩:=hI;have hf':=D4.1 hf;have he:=yu (show(e9 L (cU (aI L g.pos) 0) 15).value<=9 by omega)
 have hd:=we a1 he.1;have hp:=ie (gx L g.pos);have ho:=abz r1 r2 hp.1 hp.2;refine⟨⟨⟨hd.2.2.1,by have:=hd.2.2.2;simp only[SU];omega⟩,ho.2,⟨by simp only[SU];omega,by simp only[SU];omega⟩,fun h=>?_,fun _=>hf'.2.2.1,?_⟩,?_⟩
 ·simp only[SU]at h;omega
 ·rw[<-e3,Tn d1 d2 h2 h hf hs];rfl
 ·unfold wI;simp only[SU];omega
theorem aaD{L:List Obj}{k:Key}{a:Int}(x y:Int):jM L 9 (y6 k a x)=jM L 9 (y6 k a y):=by
 show SQ L (8+1) _=SQ L (8+1) _
 unfold SQ;simp only[y6,mw,rN];rfl
theorem adm{L:List Obj}{k:Key}{a:Int}(h:¬a<0)(hi:Int):tj L k a hi (y6 k a hi):=
 ⟨⟨by simp only[y6];omega,by simp only[y6];omega⟩,by simp[y6],by simp[y6],fun _=>rfl,fun h=>absurd rfl h,rfl⟩
theorem acm{L:List Obj}{k:Key}{a hi:Int}{g:Wk}(hI:tj L k a hi g)(hE:fu L k a=0):aV L k a=jM L (9-g.dep).toNat g:=by
 unfold aV;rw[ar hE,hI.2.2.2.2.2];exact aaD _ _
theorem Ka{L:List Obj}{k:Key}{a e:Int}(h:fu L k a=e)(he:e≠0):void=eo (aV L k a)/\0=ee (aV L k a)/\void=eK (aV L k a)/\0=fo (aV L k a)/\0=gP (aV L k a)/\void=ix (aV L k a)/\0=iw (aV L k a) a/\e=fu L k a:=by
 have:aV L k a=wr0:=by unfold aV;rw[aq (by omega)]
 rw[this,h];exact⟨rfl,rfl,rfl,rfl,rfl,rfl,rfl,rfl⟩
theorem CI{L:List Obj}{k:Key}{a hi d:Int}{g:Wk}{p:Key}(hI:tj L k a hi g)(hE:fu L k a=0)(h:jM L (9-g.dep).toNat g=⟨d,void,0,p,0⟩)(hd:d≠0):
  void=eo (aV L k a)/\0=ee (aV L k a)/\void=eK (aV L k a)/\0=fo (aV L k a)/\d=gP (aV L k a)/\p=ix (aV L k a)/\a=iw (aV L k a) a/\0=fu L k a:=by
 rw[acm hI hE,h,hE];simp only[eo,ee,eK,fo,gP,ix,iw,aq hd];simp
theorem XE{L:List Obj}{k:Key}{a hi ad dp:Int}{g:Wk}{q p:Key}(hI:tj L k a hi g)(hE:fu L k a=0)(h:jM L (9-g.dep).toNat g=⟨0,q,ad,p,dp⟩):
  q=eo (aV L k a)/\ad=ee (aV L k a)/\p=eK (aV L k a)/\dp=fo (aV L k a)/\0=gP (aV L k a)/\void=ix (aV L k a)/\0=iw (aV L k a) a/\0=fu L k a:=by
 rw[acm hI hE,h,hE];exact⟨rfl,rfl,rfl,rfl,rfl,rfl,rfl,rfl⟩
theorem B9(L:List Obj)(v:Key):(!decide (bO v=0)||bc v&&decide (aJ L<=cz v))= !cS L v:=by
 rw[<-vq]
 have:decide (aJ L<=cz v)= !decide (cz v<aJ L):=by
  rw[Bool.eq_iff_iff];simp
 rw[this];cases decide (bO v=0)<;>cases bc v<;>cases decide (cz v<aJ L)<;>rfl
theorem wE1{L:List Obj}{k:Key}{a:Int}(h:decide (aJ L=0)=true):fu L k a=1:=by
 have h:=ak h;unfold aJ at h;unfold fu;rw[ar (by omega)]
theorem wE0{L:List Obj}{k:Key}{a:Int}(h:decide (aJ L=0)=false):fu L k a=if cS L k then(if a<0 then 4 else 0)else 2:=by
 have h:=aj h;unfold aJ at h;unfold fu;rw[aq (by omega)]
def dH(L:List Obj)(k:Key)(a n:Int):Int:=if fu L k a=0 then(if n<0\/64<n then 4 else 0)else fu L k a
def dD(L:List Obj)(k:Key)(a n:Int)(w:Bool):Int:=if dH L k a n=0 then(if(aV L k a).kd=0 then(if 64<(aV L k a).adr+n then 5 else if(w&& !decide ((aV L k a).pos.rights=0))=true then 6 else 0)else(aV L k a).kd)else 0
def iX(L:List Obj)(k:Key)(a n:Int)(w:Bool):Key:=if dD L k a n w=0 then void else(aV L k a).kpr
def iY(L:List Obj)(k:Key)(a n:Int)(w:Bool):Int:=if dD L k a n w=0 then 0 else a
def wk(L:List Obj)(k:Key)(a n:Int)(w:Bool):Bool:=decide (dH L k a n=0)&&decide (dD L k a n w=0)
def dc(L:List Obj)(k:Key)(a n:Int)(w:Bool):Wr:=if wk L k a n w=true then aV L k a else wr0
def afV(L:List Obj)(k:Key)(a n:Int)(w:Bool):V:= .ag [.it .i64 (dD L k a n w),.key (iX L k a n w),.it .i64 (iY L k a n w)]
def oD(L:List Obj)(k:Key)(a n:Int):ByteArray:=if wk L k a n false=true then fk L (eo (dc L k a n false)) (ee (dc L k a n false)) n else⟨#[]⟩
def mD(L:List Obj)(k:Key)(a:Int)(s:ByteArray):List Obj:=if wk L k a (dJ s) true=true then fE L (eo (dc L k a (dJ s) true)) (ee (dc L k a (dJ s) true)) s else L
def acX(L:List Obj)(k:Key)(a n:Int)(w:Bool):V:= .tp [aa6 (dc L k a n w),afV L k a n w,.it .i64 (dH L k a n)]
def abQ:Ct:=FN (bJ sA (bJ kA (bJ iA (bJ iA (bJ bA jP))))) (fun _=>none) fun x=>acX (vP x.1) x.2.1 x.2.2.1 x.2.2.2.1 x.2.2.2.2.1
def adq:Ct:=FN (bJ sA (bJ kA (bJ iA (bJ iA jP)))) (fun _=>none) fun x=> .tp [.st (oD (vP x.1) x.2.1 x.2.2.1 x.2.2.2.1),afV (vP x.1) x.2.1 x.2.2.1 x.2.2.2.1 false,.it .i64 (dH (vP x.1) x.2.1 x.2.2.1 x.2.2.2.1)]
def abc:lg:=hSr IM (fun x=>aU x.2.2) (fun L x=>aO L/\aU x.2.2) (fun L x=> .tp [afV L x.1 x.2.1 (dJ x.2.2) true,.it .i64 (dH L x.1 x.2.1 (dJ x.2.2))]) fun L x=>mD L x.1 x.2.1 x.2.2
theorem TY{L:List Obj}{k:Key}{r:Int}(h:bk L k=true)(h3:k.kind=3):bk L (ri r k)=true/\(ri r k).kind=3:=by
 unfold ri;split
 ·exact⟨h,h3⟩
 ·refine⟨?_,h3⟩;have hk:=(eT h).1;have hm:dg k.kind=1:=by rw[h3];rfl
  have hk':aR (cU k 1)=true:=by
   have hk1:=hk;simp only[aR,af,ah]at hk1⊢;obtain⟨⟨⟨⟨⟨⟨⟨x1,x2⟩,x3⟩,x4⟩,x5⟩,x6⟩,x7⟩,x8⟩:=hk1;exact⟨⟨⟨⟨⟨⟨⟨x1,x2⟩,by show(0:Int)<=1;omega⟩,by show 1<=dg k.kind;omega⟩,x5⟩,x6⟩,x7⟩,x8⟩
  have hn:cx (cU k 1)=cx k:=by unfold cx;rw[hk,hk'];rfl
  have hw:jo (cU k 1)=jo k:=by unfold jo;rw[hn];rfl
  have hc:∀o,cW (cU k 1) o=cW k o:=fun o=>by unfold cW;rw[hn,hw,hk,hk'];rfl
  have hd:bc (cU k 1)=bc k:=by unfold bc;rw[hk,hk'];rfl
  unfold bk at h⊢;rw[hd,hc];exact h
theorem Kk{L:List Obj}:∀(n:Nat) (w:Wk),0<=w.adr->(jM L n w).kd=0->(bk L (jM L n w).pos=true/\(jM L n w).pos.kind=3)/\0<=(jM L n w).adr/\(jM L n w).adr<64
 |0,w,_,h=>absurd h (by show¬(3:Int)=0;omega)
 |n+1,w,ha,h=>by
  unfold jM SQ at h⊢;split at h
  ·rename_i h3;split at h
   ·rename_i hlt;rw[ar h3,ar hlt];obtain⟨pe,pi⟩:=IU (.inr h3);rw[pe]at h3⊢;exact⟨TY pi h3,ha,hlt⟩
   ·exact absurd h (by show¬(2:Int)=0;omega)
  ·rename_i h3;rw[aq h3];split at h
   ·rename_i h2;rw[ar h2];split at h
    ·rename_i r hr;unfold mw at hr;split at hr
     ·simp only[ae,and_true]at hr;subst hr;exact absurd h (by show¬(3:Int)=0;omega)
     ·split at hr
      ·split at hr<;>simp only[ae,and_true,reduceCtorEq,and_false]at hr
       subst hr;exact absurd h (by show¬(2:Int)=0;omega)
      ·simp only[ae,and_true]at hr;subst hr;exact absurd h (by show¬(4:Int)=0;omega)
    ·rename_i r w' hr;refine Kk n w' ?_ h;unfold mw at hr;split at hr
     ·simp at hr
     ·split at hr
      ·rename_i hf;split at hr<;>simp only[ae,aa,reduceCtorEq,and_false]at hr
       obtain⟨_,rfl⟩:=hr;have hf':=D4.1 hf;have he:=yu (show(e9 L (cU (aI L w.pos) 0) 15).value<=9 by omega)
       exact(we ha he.1).2.2.1
      ·simp at hr
   ·exact absurd h (by show¬(1:Int)=0;omega)
theorem Yv{L:List Obj}{k:Key}{a:Int}(hE:fu L k a=0)(h:(aV L k a).kd=0):(bk L (aV L k a).pos=true/\(aV L k a).pos.kind=3)/\0<=(aV L k a).adr/\(aV L k a).adr<64:=by
 have ha:0<=a:=by
  unfold fu at hE;split at hE
  ·omega
  ·split at hE
   ·split at hE<;>omega
   ·omega
 unfold aV at h⊢;rw[ar hE]at h⊢;exact Kk 9 _ ha h
theorem yS{L:List Obj}{k:Key}{a n:Int}{w:Bool}:(!decide (dH L k a n=0)|| !decide (dD L k a n w=0))= !wk L k a n w:=by
 unfold wk;cases decide (dH L k a n=0)<;>cases decide (dD L k a n w=0)<;>rfl
theorem Ai{L:List Obj}{k:Key}{a n:Int}{w:Bool}(h:wk L k a n w=true):dH L k a n=0/\dD L k a n w=0:=by
 unfold wk at h;simpa using h
theorem WM{L:List Obj}{k:Key}{a n e:Int}(h:fu L k a=e)(he:e≠0):dH L k a n=e:=by unfold dH;rw[h,aq he]
theorem ac7{L:List Obj}{k:Key}{a n:Int}(h:fu L k a=0)(hr:(decide (n<0)||decide (64<n))=true):dH L k a n=4:=by
 unfold dH;rw[ar h,ar (by simpa using hr)]
theorem ado{L:List Obj}{k:Key}{a n:Int}(h:fu L k a=0)(hr:(decide (n<0)||decide (64<n))=false):dH L k a n=0:=by
 unfold dH;rw[ar h,aq (by simpa using hr)]
theorem GW{L:List Obj}{k:Key}{a n:Int}(h:dH L k a n=0):fu L k a=0/\0<=n/\n<=64:=by
 unfold dH at h;split at h
 ·rename_i hw;split at h
  ·omega
  ·exact⟨hw,by omega,by omega⟩
 ·rename_i hw;exact absurd h hw
theorem vj{L:List Obj}{k:Key}{a n e:Int}{w:Bool}(h:dH L k a n=e)(he:e≠0):void=eo (dc L k a n w)/\0=ee (dc L k a n w)/\void=eK (dc L k a n w)/\0=fo (dc L k a n w)/\0=dD L k a n w/\void=iX L k a n w/\0=iY L k a n w/\e=dH L k a n:=by
 have hF:dD L k a n w=0:=by unfold dD;rw[h,aq he]
 have hC:wk L k a n w=false:=by unfold wk;rw[h,decide_eq_false he];rfl
 unfold dc iX iY;rw[hC,hF,h];exact⟨rfl,rfl,rfl,rfl,rfl,rfl,rfl,rfl⟩
theorem Eg{L:List Obj}{k:Key}{a n d:Int}{w:Bool}(hE:dH L k a n=0)(h:dD L k a n w=d)(hd:d≠0):void=eo (dc L k a n w)/\0=ee (dc L k a n w)/\void=eK (dc L k a n w)/\0=fo (dc L k a n w)/\d=dD L k a n w/\(aV L k a).kpr=iX L k a n w/\a=iY L k a n w/\0=dH L k a n:=by
 have hC:wk L k a n w=false:=by unfold wk;rw[h,decide_eq_false hd,Bool.and_false]
 unfold dc iX iY;rw[hC,h,hE,aq hd,aq hd];exact⟨rfl,rfl,rfl,rfl,rfl,rfl,rfl,rfl⟩
theorem Vf{L:List Obj}{k:Key}{a n:Int}{w:Bool}(hE:dH L k a n=0)(h:dD L k a n w=0):eo (aV L k a)=eo (dc L k a n w)/\ee (aV L k a)=ee (dc L k a n w)/\eK (aV L k a)=eK (dc L k a n w)/\fo (aV L k a)=fo (dc L k a n w)/\0=dD L k a n w/\void=iX L k a n w/\0=iY L k a n w/\0=dH L k a n:=by
 have hC:wk L k a n w=true:=by unfold wk;rw[h,hE];rfl
 unfold dc iX iY;rw[hC,h,hE];exact⟨rfl,rfl,rfl,rfl,rfl,rfl,rfl,rfl⟩
theorem aaZ{r:Wr}(h:r.kd=0):eo r=r.pos/\ee r=r.adr/\eK r=r.kpr:=by
 unfold eo ee eK;rw[ar h,ar h,ar h];exact⟨rfl,rfl,rfl⟩
theorem ac0{r:Wr}{a:Int}(h:r.kd≠0):gP r=r.kd/\ix r=r.kpr/\iw r a=a:=by
 unfold ix iw;rw[aq h,aq h];exact⟨rfl,rfl,rfl⟩
theorem adn{L:List Obj}{k:Key}{a n:Int}{w:Bool}(hE:dH L k a n=0)(h:(aV L k a).kd≠0):dD L k a n w=(aV L k a).kd:=by unfold dD;rw[ar hE,aq h]
theorem adg{L:List Obj}{k:Key}{a n:Int}{w:Bool}(hE:dH L k a n=0)(h:(aV L k a).kd=0)(h5:64<(aV L k a).adr+n):dD L k a n w=5:=by unfold dD;rw[ar hE,ar h,ar h5]
theorem adv{L:List Obj}{k:Key}{a n:Int}{w:Bool}(hE:dH L k a n=0)(h:(aV L k a).kd=0)(h5:¬64<(aV L k a).adr+n)(h6:(w&& !decide ((aV L k a).pos.rights=0))=true):dD L k a n w=6:=by unfold dD;rw[ar hE,ar h,aq h5,ar h6]
theorem adj{L:List Obj}{k:Key}{a n:Int}{w:Bool}(hE:dH L k a n=0)(h:(aV L k a).kd=0)(h5:¬64<(aV L k a).adr+n)(h6:(w&& !decide ((aV L k a).pos.rights=0))=false):dD L k a n w=0:=by unfold dD;rw[ar hE,ar h,aq h5,aq (by rw[h6];simp)]
theorem Jw{L:List Obj}{k:Key}{i:Int}{s:ByteArray}(hL:aO L):aO (fE L k i s):=by
 unfold fE;split
 ·rename_i h;unfold eh at h;split at h
  ·rename_i hp;obtain⟨a1,a2,_⟩:=x9 hp;exact(si hL a1 a2).2.2
  ·rename_i hp;exact absurd h hp
 ·exact hL
theorem Yi{L:List Obj}{k:Key}{a:Int}{s:ByteArray}(hL:aO L):aO (mD L k a s):=by
 unfold mD;split
 ·exact Jw hL
 ·exact hL
structure Acs where
 kind:Int
 num:Int
 root:Key
 adr:Int
 bytes:ByteArray
structure Lnk where
 hgt:Int
 slot:Int
 rts:Int
 kept:Bool
end Go.Sx
namespace Go.Proofs.YtmfbohanboiklaaGreat
open Go.Sx
theorem US(h:Int)(hh:cB .i64 h)(hq:qA h):
 az (h-1)/\(∃g,D0 h g/\h=h/\64=bW (g+1)/\h-1=h-1/\0=g)/\∀(g:Int),D0 h g->au (decide (g<h-1)) (az (bW (g+1)*16)/\az (g+1)/\∃g',D0 h g'/\(h-g').toNat<(h-g).toNat/\h=h/\bW (g+1)*16=bW (g'+1)/\h-1=h-1/\g+1=g') (bW (g+1)=bW h):=by
 delta au az
 obtain⟨q0,q9⟩:=hq;refine⟨by simp only[bh,cB]at *;omega,⟨0,⟨by omega,.inl rfl⟩,rfl,(vg (by omega)).symm,rfl,rfl⟩,fun g hg=>⟨fun hlt=>?_,fun hge=>?_⟩⟩
 ·obtain⟨g0,g1⟩:=hg;have hlt:=ak hlt;have hb:=yu (show g+1<=9 by omega)
  exact⟨by simp only[bh,cB];omega,by simp only[bh,cB];omega,g+1,⟨by omega,.inr (by omega)⟩,by omega,rfl,KQ (by omega),rfl,rfl⟩
 ·obtain⟨g0,g1⟩:=hg;have hge:=aj hge;rcases g1 with rfl|g1
  ·rw[vg (by omega),vg (by omega)]
  ·rw[show g+1=h by omega]
theorem JO[Fen]:dO Tryz.prog 237 ZW:=
 kW (ba fx dq) (fun _=>rfl) fun a hq hok=>by
  obtain⟨h,_⟩:=a;exact bP (inl:=cH) (ann:=(lf [(237,3,WX [0,2,5] (fun g=> [(3,.it .i64 (bW (DE g 1))),(6,.it .i64 g)]) (D0 h) h)])) aP (US h hok.1 hq) (by kernel_rfl)
theorem O3:
 ∀(nid:Nat),some (V.mp nid)=some (V.mp nid)/\some [aS.mp IntKind.i64 [3,2] [V.fn 234 [],V.fn 235 []]]=some [aS.mp IntKind.i64 [3,2] [V.fn 234 [],V.fn 235 []]]:=by
 exact fun nid=>⟨rfl,rfl⟩
theorem Ev[Fen]:dO Tryz.prog 232 (BR spX spN):=vB (π:= [0]) (by decide) (fun _=>rfl) (bU (inl:=cH) (ann:=bn) aP aT O3 (by kernel_rfl))
abbrev aea(g:Wk)(k:Key)(a:Int):=aI [] g.pos=eo (aV [] k a)/\g.adr=ee (aV [] k a)/\g.kpr=eK (aV [] k a)/\g.dep=fo (aV [] k a)/\0=gP (aV [] k a)/\void=ix (aV [] k a)/\0=iw (aV [] k a) a/\0=fu [] k a
abbrev aeb(g:Wk):=bf [] (aB 2 (aI [] g.pos) void.value) 15
abbrev aec(k:Key)(a:Int)(g:Wk):=au (!decide (2=0)) (void=eo (aV [] k a)/\0=ee (aV [] k a)/\void=eK (aV [] k a)/\0=fo (aV [] k a)/\2=gP (aV [] k a)/\g.kpr=ix (aV [] k a)/\a=iw (aV [] k a) a/\0=fu [] k a) (aea g k a)
abbrev aed(g:Wk):=bW (aeb g).value
abbrev aee(g:Wk):=aB 2 (aI [] g.pos) void.value
theorem Rg(k:Key)(a:Int)(ha:cB .i64 a):
 aw (au (decide (aJ []=0)) (void=eo (aV [] k a)/\0=ee (aV [] k a)/\void=eK (aV [] k a)/\0=fo (aV [] k a)/\0=gP (aV [] k a)/\void=ix (aV [] k a)/\0=iw (aV [] k a) a/\1=fu [] k a) (au (!decide (bO k=0)||bc k&&decide (aJ []<=cz k)) (void=eo (aV [] k a)/\0=ee (aV [] k a)/\void=eK (aV [] k a)/\0=fo (aV [] k a)/\0=gP (aV [] k a)/\void=ix (aV [] k a)/\0=iw (aV [] k a) a/\2=fu [] k a) (au (decide (a<0)) (void=eo (aV [] k a)/\0=ee (aV [] k a)/\void=eK (aV [] k a)/\0=fo (aV [] k a)/\0=gP (aV [] k a)/\void=ix (aV [] k a)/\0=iw (aV [] k a) a/\4=fu [] k a) (aw ((∃g,tj [] k a 0 g/\k=k/\void=void/\void=void/\void=void/\k=k/\Value.pointer none=Value.pointer none/\k=g.pos/\a=g.adr/\0=g.rts/\void=g.kpr/\0=g.dep/\0=g.hi/\false=false)/\∀(g:Wk),tj [] k a 0 g->aw (au (!(decide ((aI [] g.pos).kind=3)||decide ((aI [] g.pos).kind=2))) (au (!decide (1=0)) (void=eo (aV [] k a)/\0=ee (aV [] k a)/\void=eK (aV [] k a)/\0=fo (aV [] k a)/\1=gP (aV [] k a)/\g.kpr=ix (aV [] k a)/\a=iw (aV [] k a) a/\0=fu [] k a) (aea g k a)) (au (decide ((aI [] g.pos).kind=3)) (aw (aw (au (!decide (g.adr<64)) (aec k a g) (au (!decide (bu BinOp.and IntKind.i64 g.rts 3=0)) (Key.mk (aI [] g.pos).kind (aI [] g.pos).oid (aI [] g.pos).count (aI [] g.pos).call (bu BinOp.or IntKind.i64 (aI [] g.pos).rights 1) (aI [] g.pos).value=eo (aV [] k a)/\g.adr=ee (aV [] k a)/\g.kpr=eK (aV [] k a)/\g.dep=fo (aV [] k a)/\0=gP (aV [] k a)/\void=ix (aV [] k a)/\0=iw (aV [] k a) a/\0=fu [] k a) (aea g k a))))) (au (decide ((aI [] g.pos).kind=2)) (aw (aw (au (!decide (g.dep<8)) (au (!decide (3=0)) (void=eo (aV [] k a)/\0=ee (aV [] k a)/\void=eK (aV [] k a)/\0=fo (aV [] k a)/\3=gP (aV [] k a)/\g.kpr=ix (aV [] k a)/\a=iw (aV [] k a) a/\0=fu [] k a) (aea g k a)) (aw (aw (au (!(decide ((aeb g).kind=1)&&decide (1<=(aeb g).value)&&decide ((aeb g).value<=8)&&(decide (g.dep=0)||decide ((aeb g).value<g.hi)))) (au (!decide (4=0)) (void=eo (aV [] k a)/\0=ee (aV [] k a)/\void=eK (aV [] k a)/\0=fo (aV [] k a)/\4=gP (aV [] k a)/\g.kpr=ix (aV [] k a)/\a=iw (aV [] k a) a/\0=fu [] k a) (aea g k a)) (aw (au (decide ((bf [] (aee g) 14).kind=6)&&decide (bu BinOp.and IntKind.i64 (bu BinOp.or IntKind.i64 g.rts (aI [] g.pos).rights) 4=0)) (qA (aeb g).value/\(Jb (aed g)/\az (g.adr.tdiv (aed g)))/\aw (au (!decide (g.adr.tdiv (aed g)<14)) (au (!decide (2=0)) (void=eo (aV [] k a)/\0=ee (aV [] k a)/\void=eK (aV [] k a)/\0=fo (aV [] k a)/\2=gP (aV [] k a)/\bf [] (aee g) 14=ix (aV [] k a)/\a=iw (aV [] k a) a/\0=fu [] k a) (aI [] g.pos=eo (aV [] k a)/\g.adr=ee (aV [] k a)/\bf [] (aee g) 14=eK (aV [] k a)/\g.dep=fo (aV [] k a)/\0=gP (aV [] k a)/\void=ix (aV [] k a)/\0=iw (aV [] k a) a/\0=fu [] k a)) (az (g.dep+1)/\(Jb (aed g)/\az (g.adr.tmod (aed g)))/\∃g',tj [] k a 0 g'/\wI g'<wI g/\k=k/\void=void/\void=void/\void=void/\k=k/\Value.pointer none=Value.pointer none/\bf [] (aI [] g.pos) (g.adr.tdiv (aed g))=g'.pos/\g.adr.tmod (aed g)=g'.adr/\bu BinOp.or IntKind.i64 g.rts (aI [] g.pos).rights=g'.rts/\bf [] (aee g) 14=g'.kpr/\g.dep+1=g'.dep/\(aeb g).value=g'.hi/\false=false))) (qA (aeb g).value/\(Jb (aed g)/\az (g.adr.tdiv (aed g)))/\aw (au (!decide (g.adr.tdiv (aed g)<14)) (aec k a g) (az (g.dep+1)/\(Jb (aed g)/\az (g.adr.tmod (aed g)))/\∃g',tj [] k a 0 g'/\wI g'<wI g/\k=k/\void=void/\void=void/\void=void/\k=k/\Value.pointer none=Value.pointer none/\bf [] (aI [] g.pos) (g.adr.tdiv (aed g))=g'.pos/\g.adr.tmod (aed g)=g'.adr/\bu BinOp.or IntKind.i64 g.rts (aI [] g.pos).rights=g'.rts/\g.kpr=g'.kpr/\g.dep+1=g'.dep/\(aeb g).value=g'.hi/\false=false))))))))))) False)))))))):=by
 delta au aB aee aed aec aeb aea az aw
 refine⟨rfl,fun h=>Ka (wE1 h) (by omega),fun h=>absurd h (by decide)⟩
theorem Qb[Fen](k:Key)(a:Int)(ha:cB .i64 a):aM Tryz.prog 228 [lX,.key k,.it .i64 a] [] (sX (Qd [] k a)) (fun _ _=>False):=
 bm (inl:=(aeq [227,230,233,234,235,236])) (ann:=(lf [(230,2,lpP [0,2] (fun _=> []) 0 (fun g=> .blk tW (wkV (lX) g)) (tj [] k a 0) wI)])) (aH Ev (aH bF (aH gK (aH dC (aH gI (aH JO (aH sM aP))))))) aT (ek Jl) (Rg k a ha) (by kernel_rfl)
abbrev aef(L:List Sx.Obj)(g:Wk)(k:Key)(a:Int):=aI L g.pos=eo (aV L k a)/\g.adr=ee (aV L k a)/\g.kpr=eK (aV L k a)/\g.dep=fo (aV L k a)/\0=gP (aV L k a)/\void=ix (aV L k a)/\0=iw (aV L k a) a/\0=fu L k a
abbrev aeg(L:List Sx.Obj)(g:Wk):=bf L (aB 2 (aI L g.pos) void.value) 15
abbrev aeh(L:List Sx.Obj)(k:Key)(a:Int)(g:Wk):=au (!decide (2=0)) (void=eo (aV L k a)/\0=ee (aV L k a)/\void=eK (aV L k a)/\0=fo (aV L k a)/\2=gP (aV L k a)/\g.kpr=ix (aV L k a)/\a=iw (aV L k a) a/\0=fu L k a) (aef L g k a)
abbrev aei(L:List Sx.Obj)(g:Wk):=bW (aeg L g).value
theorem Uz(L:List Sx.Obj)(k:Key)(a:Int)(ha:cB .i64 a):
 aw (au (decide (aJ L=0)) (void=eo (aV L k a)/\0=ee (aV L k a)/\void=eK (aV L k a)/\0=fo (aV L k a)/\0=gP (aV L k a)/\void=ix (aV L k a)/\0=iw (aV L k a) a/\1=fu L k a) (au (!decide (bO k=0)||bc k&&decide (aJ L<=cz k)) (void=eo (aV L k a)/\0=ee (aV L k a)/\void=eK (aV L k a)/\0=fo (aV L k a)/\0=gP (aV L k a)/\void=ix (aV L k a)/\0=iw (aV L k a) a/\2=fu L k a) (au (decide (a<0)) (void=eo (aV L k a)/\0=ee (aV L k a)/\void=eK (aV L k a)/\0=fo (aV L k a)/\0=gP (aV L k a)/\void=ix (aV L k a)/\0=iw (aV L k a) a/\4=fu L k a) (aw ((∃g,tj L k a 0 g/\L=L/\k=k/\void=void/\void=void/\void=void/\k=k/\k=g.pos/\a=g.adr/\0=g.rts/\void=g.kpr/\0=g.dep/\0=g.hi/\false=false)/\∀(g:Wk),tj L k a 0 g->aw (au (!(decide ((aI L g.pos).kind=3)||decide ((aI L g.pos).kind=2))) (au (!decide (1=0)) (void=eo (aV L k a)/\0=ee (aV L k a)/\void=eK (aV L k a)/\0=fo (aV L k a)/\1=gP (aV L k a)/\g.kpr=ix (aV L k a)/\a=iw (aV L k a) a/\0=fu L k a) (aef L g k a)) (au (decide ((aI L g.pos).kind=3)) (aw (aw (au (!decide (g.adr<64)) (aeh L k a g) (au (!decide (bu BinOp.and IntKind.i64 g.rts 3=0)) (Key.mk (aI L g.pos).kind (aI L g.pos).oid (aI L g.pos).count (aI L g.pos).call (bu BinOp.or IntKind.i64 (aI L g.pos).rights 1) (aI L g.pos).value=eo (aV L k a)/\g.adr=ee (aV L k a)/\g.kpr=eK (aV L k a)/\g.dep=fo (aV L k a)/\0=gP (aV L k a)/\void=ix (aV L k a)/\0=iw (aV L k a) a/\0=fu L k a) (aef L g k a))))) (au (decide ((aI L g.pos).kind=2)) (aw (aw (au (!decide (g.dep<8)) (au (!decide (3=0)) (void=eo (aV L k a)/\0=ee (aV L k a)/\void=eK (aV L k a)/\0=fo (aV L k a)/\3=gP (aV L k a)/\g.kpr=ix (aV L k a)/\a=iw (aV L k a) a/\0=fu L k a) (aef L g k a)) (aw (aw (au (!(decide ((aeg L g).kind=1)&&decide (1<=(aeg L g).value)&&decide ((aeg L g).value<=8)&&(decide (g.dep=0)||decide ((aeg L g).value<g.hi)))) (au (!decide (4=0)) (void=eo (aV L k a)/\0=ee (aV L k a)/\void=eK (aV L k a)/\0=fo (aV L k a)/\4=gP (aV L k a)/\g.kpr=ix (aV L k a)/\a=iw (aV L k a) a/\0=fu L k a) (aef L g k a)) (aw (au (decide ((bf L (aB 2 (aI L g.pos) void.value) 14).kind=6)&&decide (bu BinOp.and IntKind.i64 (bu BinOp.or IntKind.i64 g.rts (aI L g.pos).rights) 4=0)) (qA (aeg L g).value/\(Jb (aei L g)/\az (g.adr.tdiv (aei L g)))/\aw (au (!decide (g.adr.tdiv (aei L g)<14)) (au (!decide (2=0)) (void=eo (aV L k a)/\0=ee (aV L k a)/\void=eK (aV L k a)/\0=fo (aV L k a)/\2=gP (aV L k a)/\bf L (aB 2 (aI L g.pos) void.value) 14=ix (aV L k a)/\a=iw (aV L k a) a/\0=fu L k a) (aI L g.pos=eo (aV L k a)/\g.adr=ee (aV L k a)/\bf L (aB 2 (aI L g.pos) void.value) 14=eK (aV L k a)/\g.dep=fo (aV L k a)/\0=gP (aV L k a)/\void=ix (aV L k a)/\0=iw (aV L k a) a/\0=fu L k a)) (az (g.dep+1)/\(Jb (aei L g)/\az (g.adr.tmod (aei L g)))/\∃g',tj L k a 0 g'/\wI g'<wI g/\L=L/\k=k/\void=void/\void=void/\void=void/\k=k/\bf L (aI L g.pos) (g.adr.tdiv (aei L g))=g'.pos/\g.adr.tmod (aei L g)=g'.adr/\bu BinOp.or IntKind.i64 g.rts (aI L g.pos).rights=g'.rts/\bf L (aB 2 (aI L g.pos) void.value) 14=g'.kpr/\g.dep+1=g'.dep/\(aeg L g).value=g'.hi/\false=false))) (qA (aeg L g).value/\(Jb (aei L g)/\az (g.adr.tdiv (aei L g)))/\aw (au (!decide (g.adr.tdiv (aei L g)<14)) (aeh L k a g) (az (g.dep+1)/\(Jb (aei L g)/\az (g.adr.tmod (aei L g)))/\∃g',tj L k a 0 g'/\wI g'<wI g/\L=L/\k=k/\void=void/\void=void/\void=void/\k=k/\bf L (aI L g.pos) (g.adr.tdiv (aei L g))=g'.pos/\g.adr.tmod (aei L g)=g'.adr/\bu BinOp.or IntKind.i64 g.rts (aI L g.pos).rights=g'.rts/\g.kpr=g'.kpr/\g.dep+1=g'.dep/\(aeg L g).value=g'.hi/\false=false))))))))))) False)))))))):=by
 delta au aB aei aeh aeg aef az aw
 refine⟨rfl,fun h=>Ka (wE1 h) (by omega),fun h=>⟨fun h2=>?_,fun h2=>⟨fun h3=>?_,fun h3=>⟨rfl,?_,fun g hI=>⟨rfl,?_⟩⟩⟩⟩⟩
 ·rw[B9,Bool.not_eq_true']at h2;exact Ka (by rw[wE0 h,h2];rfl) (by omega)
 ·rw[B9,Bool.not_eq_false']at h2;exact Ka (by rw[wE0 h,h2,ar rfl,ar (ak h3)]) (by omega)
 ·refine⟨y6 k a 0,adm (aj h3) 0,?_⟩;repeat' apply And.intro
  all_goals rfl
 rw[B9,Bool.not_eq_false']at h2;have hE:fu L k a=0:=by rw[wE0 h,h2,ar rfl,aq (aj h3)]
 clear h h2 h3;obtain⟨⟨a1,a2⟩,⟨r1,r2⟩,⟨d1,d2⟩,e1,e2,e3⟩:=id hI;refine⟨fun v=>⟨fun _=>?_,fun h=>absurd h (by decide)⟩,fun v=>⟨fun v3=>⟨rfl,rfl,fun b=>⟨fun _=>?_,fun h=>absurd h (by decide)⟩,fun b=>⟨fun ro=>?_,fun ro=>?_⟩⟩,fun v3=>⟨fun v2=>?_,fun v2=>?_⟩⟩⟩
 ·simp only[Bool.not_eq_true',Bool.or_eq_false_iff,decide_eq_false_iff_not]at v;exact CI hI hE (Vs d1 d2 v.1 v.2) (by omega)
 ·have v3:=ak v3;exact CI hI hE (aat d1 d2 v3 (by simpa using b)) (by omega)
 ·have v3:=ak v3;have hb:g.adr<64:=by simpa using b
  have hp:=ga (gx L g.pos);have hm:dg (aI L g.pos).kind=1:=by rw[v3];rfl
  rw[TX r1 r2]at ro;have ro:g.rts.tmod 4≠0:=by simpa using ro
  refine XE hI hE ((JG d1 d2 v3 hb).trans ?_);rw[EV hp.1 (by omega)]
  unfold ri;rw[aq ro];rfl
 ·have v3:=ak v3;have hb:g.adr<64:=by simpa using b
  rw[TX r1 r2]at ro;have ro:g.rts.tmod 4=0:=by simpa using ro
  refine XE hI hE ((JG d1 d2 v3 hb).trans ?_);unfold ri;rw[ar ro]
 ·have v3:=aj v3;have v2:=ak v2;obtain⟨pe,pi⟩:=IU (.inl v2);have pi':bk L (aI L g.pos)=true:=by rw[pe];exact pi
  have hp:=ie (gx L g.pos);have ho:=abz r1 r2 hp.1 hp.2;rw[R9 (i:=15) pi' v2 (by omega) (by omega),R9 (i:=14) pi' v2 (by omega) (by omega),ho.1,acW ho.2.1 ho.2.2]
  refine⟨rfl,rfl,fun b=>⟨fun _=>?_,fun h=>absurd h (by decide)⟩,fun b=>⟨rfl,rfl,fun f=>⟨fun _=>?_,fun h=>absurd h (by decide)⟩,fun f=>⟨rfl,?_⟩⟩⟩
  ·exact CI hI hE (aaC d1 d2 v2 (by simpa using b)) (by omega)
  ·have b:g.dep<8:=by simpa using b
   exact CI hI hE (UG d1 d2 v2 b (by unfold rN;rw[Bool.not_eq_true']at f;exact f)) (by omega)
  ·have b:g.dep<8:=by simpa using b
   have f:rN g (e9 L (cU (aI L g.pos) 0) 15)=true:=by unfold rN;rw[Bool.not_eq_false']at f;exact f
   have hf':=D4.1 f;have he:=yu (show(e9 L (cU (aI L g.pos) 0) 15).value<=9 by omega)
   have hd:=we a1 he.1;have q1:qA (e9 L (cU (aI L g.pos) 0) 15).value:=⟨by omega,by omega⟩
   have q2:Jb (bW (e9 L (cU (aI L g.pos) 0) 15).value):=by unfold Jb;omega
   unfold cB at ha;have q3:bh IntKind.i64 (g.adr.tdiv (bW (e9 L (cU (aI L g.pos) 0) 15).value)):=by simp only[bh,cB];omega
   have q4:bh IntKind.i64 (g.adr.tmod (bW (e9 L (cU (aI L g.pos) 0) 15).value)):=by simp only[bh,cB];omega
   have q5:bh IntKind.i64 (g.dep+1):=by simp only[bh,cB];omega
   have kp:∀b,(decide ((e9 L (cU (aI L g.pos) 0) 14).kind=6)&&decide (uD g.rts (aI L g.pos).rights<4))=b->EF (uD g.rts (aI L g.pos).rights) (e9 L (cU (aI L g.pos) 0) 14) g.kpr=if b then e9 L (cU (aI L g.pos) 0) 14 else g.kpr:=by
    intro b hb;unfold EF;cases b
    ·simp only[Bool.and_eq_false_iff,decide_eq_false_iff_not]at hb;rw[aq (by omega)];rfl
    ·simp only[af,ah]at hb;rw[ar hb];rfl
   refine⟨fun c=>⟨q1,⟨q2,q3⟩,rfl,fun s=>⟨fun _=>?_,fun h=>absurd h (by decide)⟩,fun s=>⟨q5,⟨q2,q4⟩,SU L g,?_⟩⟩,fun c=>⟨q1,⟨q2,q3⟩,rfl,fun s=>⟨fun _=>?_,fun h=>absurd h (by decide)⟩,fun s=>⟨q5,⟨q2,q4⟩,SU L g,?_⟩⟩⟩
   ·exact CI hI hE ((J2 d1 d2 v2 b f (by simpa using s)).trans (by rw[kp _ c];rfl)) (by omega)
   ·have s:g.adr.tdiv (bW (e9 L (cU (aI L g.pos) 0) 15).value)<14:=by simpa using s
    obtain⟨n1,n2⟩:=Xb hI v2 b f s;rw[HJ pi' v2 hd.1 (by omega)]
    refine⟨n1,n2,rfl,rfl,rfl,rfl,rfl,rfl,rfl,rfl,rfl,?_,rfl,rfl,rfl⟩;show _=EF _ _ _
    rw[kp _ c];rfl
   ·exact CI hI hE ((J2 d1 d2 v2 b f (by simpa using s)).trans (by rw[kp _ c];rfl)) (by omega)
   ·have s:g.adr.tdiv (bW (e9 L (cU (aI L g.pos) 0) 15).value)<14:=by simpa using s
    obtain⟨n1,n2⟩:=Xb hI v2 b f s;rw[HJ pi' v2 hd.1 (by omega)]
    refine⟨n1,n2,rfl,rfl,rfl,rfl,rfl,rfl,rfl,rfl,rfl,?_,rfl,rfl,rfl⟩;show _=EF _ _ _
    rw[kp _ c];rfl
 ·simp only[Bool.not_eq_false',Bool.or_eq_true,ah]at v;have v3:=aj v3;have v2:=aj v2;omega
theorem Vq[Fen](L:List Sx.Obj)(k:Key)(a:Int)(ha:cB .i64 a):aM Tryz.prog 228 [.lp 0 0,.key k,.it .i64 a] [.ro (.store tS eS L)] (sX (Qd L k a)) (fun _ _=>False):=
 bm (inl:=(aeq [227,230,233,234,235,236])) (ann:=(lf [(230,2,lpP [0,2] (fun _=> []) 0 (fun g=> .blk tW (wkV (.lp 0 0) g)) (tj L k a 0) wI)])) (aH Ev (aH bF (aH gK (aH dC (aH gI (aH JO (aH sM aP))))))) aT (ek Jl) (Uz L k a ha) (by kernel_rfl)
theorem Jq[Fen]:dO Tryz.prog 228 ZY:=
 kW (ba tq (ba nX (ba fx dq))) (fun _=>rfl) fun a hq hok=>by
  obtain⟨S,k,i,_⟩:=a;cases S with
  |none=>exact Qb k i hok.2.2.1
  |some L=>exact Vq L k i hok.2.2.1
abbrev aej(k:Key)(a:Int)(n:Int)(w:Bool):=void=eo (dc [] k a n w)/\0=ee (dc [] k a n w)/\void=eK (dc [] k a n w)/\0=fo (dc [] k a n w)/\0=dD [] k a n w/\void=iX [] k a n w/\0=iY [] k a n w/\4=dH [] k a n
theorem V6(k:Key)(a:Int)(n:Int)(w:Bool):
 aw (au (decide (aJ []=0)) (void=eo (dc [] k a n w)/\0=ee (dc [] k a n w)/\void=eK (dc [] k a n w)/\0=fo (dc [] k a n w)/\0=dD [] k a n w/\void=iX [] k a n w/\0=iY [] k a n w/\1=dH [] k a n) (au (!decide (bO k=0)||bc k&&decide (aJ []<=cz k)) (void=eo (dc [] k a n w)/\0=ee (dc [] k a n w)/\void=eK (dc [] k a n w)/\0=fo (dc [] k a n w)/\0=dD [] k a n w/\void=iX [] k a n w/\0=iY [] k a n w/\2=dH [] k a n) (au (decide (a<0)) (aej k a n w) (au (decide (n<0)||decide (64<n)) (aej k a n w) (au (!decide (gP (aV [] k a)=0)) (void=eo (dc [] k a n w)/\0=ee (dc [] k a n w)/\void=eK (dc [] k a n w)/\0=fo (dc [] k a n w)/\gP (aV [] k a)=dD [] k a n w/\ix (aV [] k a)=iX [] k a n w/\iw (aV [] k a) a=iY [] k a n w/\0=dH [] k a n) (bh IntKind.i64 (ee (aV [] k a)+n)/\au (decide (64<ee (aV [] k a)+n)) (aw (void=eo (dc [] k a n w)/\0=ee (dc [] k a n w)/\void=eK (dc [] k a n w)/\0=fo (dc [] k a n w)/\5=dD [] k a n w/\eK (aV [] k a)=iX [] k a n w/\a=iY [] k a n w/\0=dH [] k a n)) (au (w&& !decide (bu BinOp.and IntKind.i64 (eo (aV [] k a)).rights 1=0)) (aw (void=eo (dc [] k a n w)/\0=ee (dc [] k a n w)/\void=eK (dc [] k a n w)/\0=fo (dc [] k a n w)/\6=dD [] k a n w/\eK (aV [] k a)=iX [] k a n w/\a=iY [] k a n w/\0=dH [] k a n)) (eo (aV [] k a)=eo (dc [] k a n w)/\ee (aV [] k a)=ee (dc [] k a n w)/\eK (aV [] k a)=eK (dc [] k a n w)/\fo (aV [] k a)=fo (dc [] k a n w)/\0=dD [] k a n w/\void=iX [] k a n w/\0=iY [] k a n w/\0=dH [] k a n)))))))):=by
 delta au aej aw
 exact⟨rfl,fun h=>vj (WM (wE1 h) (by omega)) (by omega),fun h=>absurd h (by decide)⟩
abbrev aek(L:List Sx.Obj)(k:Key)(a:Int)(n:Int)(w:Bool):=void=eo (dc L k a n w)/\0=ee (dc L k a n w)/\void=eK (dc L k a n w)/\0=fo (dc L k a n w)/\0=dD L k a n w/\void=iX L k a n w/\0=iY L k a n w/\4=dH L k a n
theorem XR(L:List Sx.Obj)(k:Key)(a:Int)(n:Int)(w:Bool):
 aw (au (decide (aJ L=0)) (void=eo (dc L k a n w)/\0=ee (dc L k a n w)/\void=eK (dc L k a n w)/\0=fo (dc L k a n w)/\0=dD L k a n w/\void=iX L k a n w/\0=iY L k a n w/\1=dH L k a n) (au (!decide (bO k=0)||bc k&&decide (aJ L<=cz k)) (void=eo (dc L k a n w)/\0=ee (dc L k a n w)/\void=eK (dc L k a n w)/\0=fo (dc L k a n w)/\0=dD L k a n w/\void=iX L k a n w/\0=iY L k a n w/\2=dH L k a n) (au (decide (a<0)) (aek L k a n w) (au (decide (n<0)||decide (64<n)) (aek L k a n w) (au (!decide (gP (aV L k a)=0)) (void=eo (dc L k a n w)/\0=ee (dc L k a n w)/\void=eK (dc L k a n w)/\0=fo (dc L k a n w)/\gP (aV L k a)=dD L k a n w/\ix (aV L k a)=iX L k a n w/\iw (aV L k a) a=iY L k a n w/\0=dH L k a n) (bh IntKind.i64 (ee (aV L k a)+n)/\au (decide (64<ee (aV L k a)+n)) (aw (void=eo (dc L k a n w)/\0=ee (dc L k a n w)/\void=eK (dc L k a n w)/\0=fo (dc L k a n w)/\5=dD L k a n w/\eK (aV L k a)=iX L k a n w/\a=iY L k a n w/\0=dH L k a n)) (au (w&& !decide (bu BinOp.and IntKind.i64 (eo (aV L k a)).rights 1=0)) (aw (void=eo (dc L k a n w)/\0=ee (dc L k a n w)/\void=eK (dc L k a n w)/\0=fo (dc L k a n w)/\6=dD L k a n w/\eK (aV L k a)=iX L k a n w/\a=iY L k a n w/\0=dH L k a n)) (eo (aV L k a)=eo (dc L k a n w)/\ee (aV L k a)=ee (dc L k a n w)/\eK (aV L k a)=eK (dc L k a n w)/\fo (aV L k a)=fo (dc L k a n w)/\0=dD L k a n w/\void=iX L k a n w/\0=iY L k a n w/\0=dH L k a n)))))))):=by
 delta au aek aw
 refine⟨rfl,fun h=>vj (WM (wE1 h) (by omega)) (by omega),fun h=>⟨fun h2=>?_,fun h2=>⟨fun h3=>?_,fun h3=>?_⟩⟩⟩
 ·rw[B9,Bool.not_eq_true']at h2;exact vj (WM (by rw[wE0 h,h2];rfl) (by omega)) (by omega)
 ·rw[B9,Bool.not_eq_false']at h2;exact vj (WM (by rw[wE0 h,h2,ar rfl,ar (ak h3)]) (by omega)) (by omega)
 rw[B9,Bool.not_eq_false']at h2;have hW:fu L k a=0:=by rw[wE0 h,h2,ar rfl,aq (aj h3)]
 clear h h2 h3;refine⟨fun h=>vj (ac7 hW h) (by omega),fun h=>?_⟩
 have hE:=ado hW h;refine⟨fun hk=>?_,fun hk=>?_⟩
 ·have hk:gP (aV L k a)≠0:=by simpa using hk
  have hk:(aV L k a).kd≠0:=hk;obtain⟨u1,u2,u3⟩:=ac0 (a:=a) hk;rw[u1,u2,u3];exact Eg hE (adn hE hk) hk
 have hk:gP (aV L k a)=0:=by simpa using hk
 have hk:(aV L k a).kd=0:=hk;obtain⟨⟨e1,e2⟩,e3,e4⟩:=Yv hW hk;obtain⟨f1,f2,f3⟩:=aaZ hk;have hr:=Dk e1 e2;obtain⟨_,n0,n1⟩:=GW hE;rw[f1,f2,f3];rw[aaE hr.1 hr.2];refine⟨by simp only[bh,cB];omega,fun h5=>?_,fun h5=>⟨fun h6=>?_,fun h6=>?_⟩⟩
 ·exact⟨rfl,Eg hE (adg hE hk (ak h5)) (by omega)⟩
 ·exact⟨rfl,Eg hE (adv hE hk (aj h5) h6) (by omega)⟩
 ·have:=Vf hE (adj hE hk (aj h5) h6);rw[f1,f2,f3]at this;exact this
theorem y7[Fen]:dO Tryz.prog 225 abQ:=
 kW (ba tq (ba nX (ba fx (ba fx (ba Ql dq))))) (fun _=>rfl) fun a hq hok=>by
  obtain⟨S,k,i,n,w,_⟩:=a;cases S with
  |none=>exact bP (inl:=(aeq [227,229])) (ann:=bn) (aH bF (aH gK (aH dC (aH Jq aP)))) (V6 k i n w) (by kernel_rfl)
  |some L=>exact bP (inl:=(aeq [227,229])) (ann:=bn) (aH bF (aH gK (aH dC (aH Jq aP)))) (XR L k i n w) (by kernel_rfl)
theorem X0(k:Key)(a:Int)(n:Int):
 au (!decide (dH [] k a n=0)|| !decide (dD [] k a n false=0)) (ByteArray.mk (Array.mk [])=oD [] k a n/\dD [] k a n false=dD [] k a n false/\iX [] k a n false=iX [] k a n false/\iY [] k a n false=iY [] k a n false/\dH [] k a n=dH [] k a n) (fk [] (eo (dc [] k a n false)) (ee (dc [] k a n false)) n=oD [] k a n/\0=dD [] k a n false/\void=iX [] k a n false/\0=iY [] k a n false/\0=dH [] k a n):=by
 delta au
 rw[yS];refine⟨fun h=>⟨?_,rfl,rfl,rfl,rfl⟩,fun h=>?_⟩
 ·rw[Bool.not_eq_true']at h;unfold oD;rw[aq (by rw[h];simp)]
 ·rw[Bool.not_eq_false']at h;have h0:=Ai h;unfold oD iX iY;rw[ar h,h0.1,h0.2];exact⟨rfl,rfl,rfl,rfl,rfl⟩
theorem abI(L:List Sx.Obj)(k:Key)(a:Int)(n:Int):
 au (!decide (dH L k a n=0)|| !decide (dD L k a n false=0)) (ByteArray.mk (Array.mk [])=oD L k a n/\dD L k a n false=dD L k a n false/\iX L k a n false=iX L k a n false/\iY L k a n false=iY L k a n false/\dH L k a n=dH L k a n) (fk L (eo (dc L k a n false)) (ee (dc L k a n false)) n=oD L k a n/\0=dD L k a n false/\void=iX L k a n false/\0=iY L k a n false/\0=dH L k a n):=by
 delta au
 rw[yS];refine⟨fun h=>⟨?_,rfl,rfl,rfl,rfl⟩,fun h=>?_⟩
 ·rw[Bool.not_eq_true']at h;unfold oD;rw[aq (by rw[h];simp)]
 ·rw[Bool.not_eq_false']at h;have h0:=Ai h;unfold oD iX iY;rw[ar h,h0.1,h0.2];exact⟨rfl,rfl,rfl,rfl,rfl⟩
theorem acz[Fen]:dO Tryz.prog 218 adq:=
 kW (ba tq (ba nX (ba fx (ba fx dq)))) (fun _=>rfl) fun a hq hok=>by
  obtain⟨S,k,i,n,_⟩:=a;cases S with
  |none=>exact bP (inl:=cH) (ann:=bn) (aH y7 (aH pn (aH bF aP))) (X0 k i n) (by kernel_rfl)
  |some L=>exact bP (inl:=cH) (ann:=bn) (aH y7 (aH pn (aH bF aP))) (abI L k i n) (by kernel_rfl)
theorem U1(k:Key)(a:Int)(s:ByteArray)(hs:aU s):
 bh IntKind.i64 (dJ s)/\au (!decide (dH [] k a (dJ s)=0)|| !decide (dD [] k a (dJ s) true=0)) (dD [] k a (dJ s) true=dD [] k a (dJ s) true/\iX [] k a (dJ s) true=iX [] k a (dJ s) true/\iY [] k a (dJ s) true=iY [] k a (dJ s) true/\dH [] k a (dJ s)=dH [] k a (dJ s)) (true=true/\0=dD [] k a (dJ s) true/\void=iX [] k a (dJ s) true/\0=iY [] k a (dJ s) true/\0=dH [] k a (dJ s)):=by
 delta au
 have hsz:bh IntKind.i64 (dJ s):=by unfold aU at hs;simp only[bh,cB,dJ];omega
 rw[yS];refine⟨hsz,fun h=>⟨rfl,rfl,rfl,rfl⟩,fun h=>?_⟩
 rw[Bool.not_eq_false']at h;have:=(GW (Ai h).1).1;have h1:fu [] k a=1:=rfl;omega
theorem TW(k:Key)(a:Int)(s:ByteArray)(hs:aU s):
 bh IntKind.i64 (dJ s)/\au (!decide (dH [] k a (dJ s)=0)|| !decide (dD [] k a (dJ s) true=0)) (dD [] k a (dJ s) true=dD [] k a (dJ s) true/\iX [] k a (dJ s) true=iX [] k a (dJ s) true/\iY [] k a (dJ s) true=iY [] k a (dJ s) true/\dH [] k a (dJ s)=dH [] k a (dJ s)) (true=true/\False):=by
 delta au
 have hsz:bh IntKind.i64 (dJ s):=by unfold aU at hs;simp only[bh,cB,dJ];omega
 rw[yS];refine⟨hsz,fun h=>⟨rfl,rfl,rfl,rfl⟩,fun h=>?_⟩
 rw[Bool.not_eq_false']at h;have:=(GW (Ai h).1).1;have h1:fu [] k a=1:=rfl;omega
theorem XP(L:List Sx.Obj)(k:Key)(a:Int)(s:ByteArray)(hL:aO L)(hs:aU s):
 bh IntKind.i64 (dJ s)/\au (!decide (dH L k a (dJ s)=0)|| !decide (dD L k a (dJ s) true=0)) ((dD L k a (dJ s) true=dD L k a (dJ s) true/\iX L k a (dJ s) true=iX L k a (dJ s) true/\iY L k a (dJ s) true=iY L k a (dJ s) true/\dH L k a (dJ s)=dH L k a (dJ s))/\L=mD L k a s) (true=true/\(aO L/\aU s)/\(0=dD L k a (dJ s) true/\void=iX L k a (dJ s) true/\0=iY L k a (dJ s) true/\0=dH L k a (dJ s))/\fE L (eo (dc L k a (dJ s) true)) (ee (dc L k a (dJ s) true)) s=mD L k a s):=by
 delta au
 have hsz:bh IntKind.i64 (dJ s):=by unfold aU at hs;simp only[bh,cB,dJ];omega
 rw[yS];refine⟨hsz,fun h=>⟨⟨rfl,rfl,rfl,rfl⟩,?_⟩,fun h=>?_⟩
 ·rw[Bool.not_eq_true']at h;unfold mD;rw[aq (by rw[h];simp)]
 ·rw[Bool.not_eq_false']at h;have h0:=Ai h;refine⟨rfl,⟨hL,hs⟩,?_,?_⟩
  ·unfold iX iY;rw[h0.1,h0.2];exact⟨rfl,rfl,rfl,rfl⟩
  ·unfold mD;rw[ar h]
theorem YO[Fen](L:List Sx.Obj)(k:Key)(a:Int)(s:ByteArray)(hL:aO L)(hs:aU s):aM Tryz.prog 220 [.lp 0 0,.key k,.it .i64 a,.st s] [.store tS eS L] (Bb (.tp [afV L k a (dJ s) true,.it .i64 (dH L k a (dJ s))]) (mD L k a s)) (fun _ _=>False):=
 bU (inl:=cH) (ann:=bn) (aH y7 (aH pn (aH bF aP))) (aW Da aT) (XP L k a s hL hs) (by kernel_rfl)
theorem aaW[Fen]:l5 Tryz.prog 220 abc:=
 D7 (m:=fun x=> [.key x.1,.it .i64 x.2.1,.st x.2.2]) FI (fun _=>rfl) (fun _ _=>rfl) (fun x hs=>bU (inl:=cH) (ann:=bn) (aH y7 (aH pn (aH bF aP))) (aW Da aT) (U1 x.1 x.2.1 x.2.2 hs) (by kernel_rfl)) (fun x hs=>bU (inl:=cH) (ann:=bn) (aH y7 (aH pn (aH bF aP))) (aW Da aT) (TW x.1 x.2.1 x.2.2 hs) (by kernel_rfl)) fun L x hL=>YO L x.1 x.2.1 x.2.2 hL.1 hL.2
end Go.Proofs.YtmfbohanboiklaaGreat
