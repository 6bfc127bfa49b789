import Derived.Test.YtmfbohanboiklaaGreatMb11
set_option linter.unusedSimpArgs false
set_option linter.unusedVariables false
set_option maxRecDepth 100000
namespace Go.Proofs.YtmfbohanboiklaaGreat
open Go.Sx
abbrev aD(k:Key):=!(decide ((ay [] k 0).kind=1)&&decide ((ay [] k 1).kind=1)&&decide (0<=(ay [] k 0).value)&&decide ((ay [] k 0).value<=(ay [] k 1).value)&&decide ((ay [] k 1).value<aK []))
theorem Gw(k:Key)(n:Int):
 aw (aw (au (!decide (0<aK [])) (void=cY [] k n/\1=cU [] k n) (aw (au (!(bm [] k&&decide (k.kind=4))) (void=cY [] k n/\190=cU [] k n) (aw (au (aD k) (void=cY [] k n/\220=cU [] k n) ((decide (1<=n)=true->bg IntKind.i64 ((ay [] k 1).value-(ay [] k 0).value))/\aw (au (!(decide (1<=n)&&decide (n<=(ay [] k 1).value-(ay [] k 0).value))) (void=cY [] k n/\4=cU [] k n) (aw (aw (aw (au (!decide (0<aK [])) (void=cY [] k n/\1=cU [] k n) (aw (au (!(bm [] k&&decide (k.kind=4))) (void=cY [] k n/\190=cU [] k n) (aw (au (aD k) (void=cY [] k n/\220=cU [] k n) (aw (aw (aw (∀(r0:Loop),False)))))))))))))))))))):=by
 delta au ay aD aw
 exact⟨rfl,rfl,fun h=>(oZ (uM (HQ h) (by omega)) (by omega)).1,fun h=>absurd h (by decide)⟩
theorem Fq(k:Key)(n:Int):
 aw (aw (au (!decide (0<aK [])) (void=cY [] k n/\1=cU [] k n) (aw (au (!(bm [] k&&decide (k.kind=4))) (void=cY [] k n/\190=cU [] k n) (aw (au (!(decide ((ay [] k 0).kind=1)&&decide ((ay [] k 1).kind=1)&&decide (0<=(ay [] k 0).value)&&decide ((ay [] k 0).value<=(ay [] k 1).value)&&decide ((ay [] k 1).value<aK []))) (void=cY [] k n/\220=cU [] k n) ((decide (1<=n)=true->bg IntKind.i64 ((ay [] k 1).value-(ay [] k 0).value))/\aw (au (!(decide (1<=n)&&decide (n<=(ay [] k 1).value-(ay [] k 0).value))) (void=cY [] k n/\4=cU [] k n) (aw False))))))))):=by
 delta au ay aw
 exact⟨rfl,rfl,fun h=>(oZ (uM (HQ h) (by omega)) (by omega)).1,fun h=>absurd h (by decide)⟩
abbrev aE(L:List Sx.Obj)(k:Key)(g:Int):=(eN L k g).count+1
abbrev aF(L:List Sx.Obj)(k:Key):=!(decide ((ay L k 0).kind=1)&&decide ((ay L k 1).kind=1)&&decide (0<=(ay L k 0).value)&&decide ((ay L k 0).value<=(ay L k 1).value)&&decide ((ay L k 1).value<aK L))
abbrev aaK(g:Int):=(aS [] g).count+1
abbrev aaL(g:Int)(L:List Sx.Obj)(k:Key)(n:Int)(g_2:Int):=(Key.mk 4 g (aE L k g) (cW 1 g (aE L k g)).call (cW 1 g (aE L k g)).rights (cW 1 g (aE L k g)).value=cY L k n/\0=cU L k n)/\mf L (bR L k n) g_2=bR L k n
abbrev aaM(L:List Sx.Obj)(k:Key)(n:Int):=void=cY L k n/\221=cU L k n
theorem I2(L:List Sx.Obj)(k:Key)(n:Int)(hL:aP L):
 aw (aw (au (!decide (0<aK L)) ((void=cY L k n/\1=cU L k n)/\L=bR L k n) (aw (au (!(bm L k&&decide (k.kind=4))) ((void=cY L k n/\190=cU L k n)/\L=bR L k n) (aw (au (aF L k) ((void=cY L k n/\220=cU L k n)/\L=bR L k n) ((decide (1<=n)=true->az ((ay L k 1).value-(ay L k 0).value))/\aw (au (!(decide (1<=n)&&decide (n<=(ay L k 1).value-(ay L k 0).value))) ((void=cY L k n/\4=cU L k n)/\L=bR L k n) (aw ((aJ L).le 1000/\au (bN L) (aw (aw (au (!decide (0<aK [])) ((void=cY L k n/\1=cU L k n)/\L=bR L k n) (aw (au (!(bm [] k&&decide (k.kind=4))) ((void=cY L k n/\190=cU L k n)/\L=bR L k n) (aw (au (!(decide ((ay [] k 0).kind=1)&&decide ((ay [] k 1).kind=1)&&decide (0<=(ay [] k 0).value)&&decide ((ay [] k 0).value<=(ay [] k 1).value)&&decide ((ay [] k 1).value<aK []))) ((void=cY L k n/\220=cU L k n)/\L=bR L k n) (aw (aw (aw (∀(r0:Loop),(∃g,jb L k g/\False)/\∀(g:Int),jb L k g->au (decide (g<=(ay [] k 1).value)) (r0=r0/\r0=r0/\au (!decide ((aS [] g).kind=0)) (r0=r0/\az (g+1)/\∃g',jb L k g'/\(ba L k+1-g').toNat<(ba L k+1 -g).toNat/\g+1=g'/\L=L/\k=k/\n=n/\void=void/\k=k/\aG L k=aG L k/\k.oid=k.oid/\(ay L k 0).value=(ay L k 0).value/\(ay L k 1).value=(ay L k 1).value/\aG L k=aG L k/\ay L k 0=ay L k 0/\ay L k 1=ay L k 1/\aG L k=aG L k/\k.oid=k.oid/\(ay L k 0).value=(ay L k 0).value/\(ay L k 1).value=(ay L k 1).value/\cA L (aX L k) g=cA L (aX L k) g'/\aG [] k=aG [] k/\Value.pointer none=Value.pointer none/\k.oid=k.oid/\(ay [] k 0).value=(ay [] k 0).value/\(ay [] k 1).value=(ay [] k 1).value/\aG [] k=aG [] k/\ay [] k 0=ay [] k 0/\ay [] k 1=ay [] k 1/\aG [] k=aG [] k/\Value.pointer none=Value.pointer none/\k.oid=k.oid/\(ay [] k 0).value=(ay [] k 0).value/\(ay [] k 1).value=(ay [] k 1).value/\aG [] k=aG [] k/\Value.pointer none=Value.pointer none/\k.oid=k.oid/\(ay [] k 0).value=(ay [] k 0).value/\(ay [] k 1).value=(ay [] k 1).value/\void=void/\false=false/\aG [] k=aG [] k/\Value.pointer none=Value.pointer none/\k.oid=k.oid/\(ay [] k 0).value=(ay [] k 0).value/\(ay [] k 1).value=(ay [] k 1).value/\r0=r0) (au (decide ((aS [] g).count=4294967295)) (aw (r0=r0/\az (g+1)/\∃g',jb L k g'/\(ba L k+1-g').toNat<(ba L k+1-g).toNat/\g+1=g'/\L=L/\k=k/\n=n/\void=void/\k=k/\aG L k=aG L k/\k.oid=k.oid/\(ay L k 0).value=(ay L k 0).value/\(ay L k 1).value=(ay L k 1).value/\aG L k=aG L k/\ay L k 0=ay L k 0/\ay L k 1=ay L k 1/\aG L k=aG L k/\k.oid=k.oid/\(ay L k 0).value=(ay L k 0).value/\(ay L k 1).value=(ay L k 1).value/\cA L (aX L k) g=cA L (aX L k) g'/\aG [] k=aG [] k/\Value.pointer none=Value.pointer none/\k.oid=k.oid/\(ay [] k 0).value=(ay [] k 0).value/\(ay [] k 1).value=(ay [] k 1).value/\aG [] k=aG [] k/\ay [] k 0=ay [] k 0/\ay [] k 1=ay [] k 1/\aG [] k=aG [] k/\Value.pointer none=Value.pointer none/\k.oid=k.oid/\(ay [] k 0).value=(ay [] k 0).value/\(ay [] k 1).value=(ay [] k 1).value/\aG [] k=aG [] k/\Value.pointer none=Value.pointer none/\k.oid=k.oid/\(ay [] k 0).value=(ay [] k 0).value/\(ay [] k 1).value=(ay [] k 1).value/\void=void/\false=false/\aG [] k=aG [] k/\Value.pointer none=Value.pointer none/\k.oid=k.oid/\(ay [] k 0).value=(ay [] k 0).value/\(ay [] k 1).value=(ay [] k 1).value/\r0=r0)) (az (aaK g)/\aw (az (aaK g)/\r0=r0/\az ((ay [] k 1).value-n)/\aw (au (!decide ((cW 1 g (aaK g)).oid<=(ay [] k 1).value-n)) ((aaM L k n)/\L=bR L k n) (aw (aw (∀(r0:Loop),(∃g_1,pC L k n g_1/\(ay [] k 0).value=g_1/\L=L/\k=k/\n=n/\void=void/\k=k/\aG L k=aG L k/\k.oid=k.oid/\(ay L k 0).value=(ay L k 0).value/\(ay L k 1).value=(ay L k 1).value/\aG L k=aG L k/\ay L k 0=ay L k 0/\ay L k 1=ay L k 1/\aG L k=aG L k/\k.oid=k.oid/\(ay L k 0).value=(ay L k 0).value/\(ay L k 1).value=(ay L k 1).value/\cA L (aX L k) g=cA L (aX L k) g/\aG [] k=aG [] k/\Value.pointer none=Value.pointer none/\k.oid=k.oid/\(ay [] k 0).value=(ay [] k 0).value/\(ay [] k 1).value=(ay [] k 1).value/\aG [] k=aG [] k/\ay [] k 0=ay [] k 0/\ay [] k 1=ay [] k 1/\aG [] k=aG [] k/\Value.pointer none=Value.pointer none/\k.oid=k.oid/\(ay [] k 0).value=(ay [] k 0).value/\(ay [] k 1).value=(ay [] k 1).value/\aG [] k=aG [] k/\Value.pointer none=Value.pointer none/\k.oid=k.oid/\(ay [] k 0).value=(ay [] k 0).value/\(ay [] k 1).value=(ay [] k 1).value/\cW 1 g (aaK g)=cW 1 g (aaK g)/\aw (aG [] k=aG [] k/\Value.pointer none=Value.pointer none/\k.oid=k.oid/\(ay [] k 0).value=(ay [] k 0).value/\(ay [] k 1).value=(ay [] k 1).value/\aS [] g=aS [] g/\aS [] g=aS [] g/\cW 1 g (aaK g)=cW 1 g (aaK g)/\aG [] k=aG [] k/\Value.pointer none=Value.pointer none/\k.oid=k.oid/\(ay [] k 0).value=(ay [] k 0).value/\(ay [] k 1).value=(ay [] k 1).value/\r0=r0))/\∀(g_1:Int),pC L k n g_1->au (decide (g_1<=(ay [] k 1).value)) (r0=r0/\r0=r0/\az ((ay [] k 1).value-n)/\aw (au (!(decide (g_1<=(ay [] k 1).value-n)||decide ((aS [] g_1).kind=0)||decide ((aS [] g_1).kind=3))) (r0=r0/\(aaM L k n)/\L=bR L k n) (r0=r0/\az (g_1+1)/\∃g',pC L k n g'/\(ba L k+1-g').toNat<(ba L k+1- g_1).toNat/\g_1+1=g'/\L=L/\k=k/\n=n/\void=void/\k=k/\aG L k=aG L k/\k.oid=k.oid/\(ay L k 0).value=(ay L k 0).value/\(ay L k 1).value=(ay L k 1).value/\aG L k=aG L k/\ay L k 0=ay L k 0/\ay L k 1=ay L k 1/\aG L k=aG L k/\k.oid=k.oid/\(ay L k 0).value=(ay L k 0).value/\(ay L k 1).value=(ay L k 1).value/\cA L (aX L k) g=cA L (aX L k) g/\aG [] k=aG [] k/\Value.pointer none=Value.pointer none/\k.oid=k.oid/\(ay [] k 0).value=(ay [] k 0).value/\(ay [] k 1).value=(ay [] k 1).value/\aG [] k=aG [] k/\ay [] k 0=ay [] k 0/\ay [] k 1=ay [] k 1/\aG [] k=aG [] k/\Value.pointer none=Value.pointer none/\k.oid=k.oid/\(ay [] k 0).value=(ay [] k 0).value/\(ay [] k 1).value=(ay [] k 1).value/\aG [] k=aG [] k/\Value.pointer none=Value.pointer none/\k.oid=k.oid/\(ay [] k 0).value=(ay [] k 0).value/\(ay [] k 1).value=(ay [] k 1).value/\cW 1 g (aaK g)=cW 1 g (aaK g)/\aw (aG [] k=aG [] k/\Value.pointer none=Value.pointer none/\k.oid=k.oid/\(ay [] k 0).value=(ay [] k 0).value/\(ay [] k 1).value=(ay [] k 1).value/\aS [] g=aS [] g/\aS [] g=aS [] g/\cW 1 g (aaK g)=cW 1 g (aaK g)/\aG [] k=aG [] k/\Value.pointer none=Value.pointer none/\k.oid=k.oid/\(ay [] k 0).value=(ay [] k 0).value/\(ay [] k 1).value=(ay [] k 1).value/\r0=r0)))) (aw (aw (az ((ay [] k 1).value-n)/\az ((ay [] k 1).value-n+1)/\aw (aw (aw (aw (aw (az ((ay [] k 1).value-n)/\aw (aw (aw False)))))))))))))))))) (aw ((aaM L k n)/\L=bR L k n))))))))))))) (aw (aw (au (!decide (0<aK L)) ((void=cY L k n/\1=cU L k n)/\L=bR L k n) (aw (au (!(bm L k&&decide (k.kind=4))) ((void=cY L k n/\190=cU L k n)/\L=bR L k n) (aw (au (aF L k) ((void=cY L k n/\220=cU L k n)/\L=bR L k n) (aw (aw (aw (∀(r0:Loop),(∃g,jb L k g/\(ay L k 0).value=g/\L=L/\k=k/\n=n/\void=void/\k=k/\aG L k=aG L k/\k.oid=k.oid/\(ay L k 0).value=(ay L k 0).value/\(ay L k 1).value=(ay L k 1).value/\aG L k=aG L k/\ay L k 0=ay L k 0/\ay L k 1=ay L k 1/\aG L k=aG L k/\k.oid=k.oid/\(ay L k 0).value=(ay L k 0).value/\(ay L k 1).value=(ay L k 1).value/\L=cA L (aX L k) g/\k=k/\aG L k=aG L k/\k.oid=k.oid/\(ay L k 0).value=(ay L k 0).value/\(ay L k 1).value=(ay L k 1).value/\aG L k=aG L k/\ay L k 0=ay L k 0/\ay L k 1=ay L k 1/\aG L k=aG L k/\k.oid=k.oid/\(ay L k 0).value=(ay L k 0).value/\(ay L k 1).value=(ay L k 1).value/\aG L k=aG L k/\k.oid=k.oid/\(ay L k 0).value=(ay L k 0).value/\(ay L k 1).value=(ay L k 1).value/\void=void/\false=false/\aG L k=aG L k/\k.oid=k.oid/\(ay L k 0).value=(ay L k 0).value/\(ay L k 1).value=(ay L k 1).value/\r0=r0)/\∀(g:Int),jb L k g->au (decide (g<=(ay L k 1).value)) (r0=r0/\r0=r0/\au (!decide ((eN L k g).kind=0)) (r0=r0/\az (g+1)/\∃g',jb L k g'/\(ba L k+1-g').toNat<(ba L k+1-g).toNat/\g+1=g'/\L=L/\k=k/\n=n/\void=void/\k=k/\aG L k=aG L k/\k.oid=k.oid/\(ay L k 0).value=(ay L k 0).value/\(ay L k 1).value=(ay L k 1).value/\aG L k=aG L k/\ay L k 0=ay L k 0/\ay L k 1=ay L k 1/\aG L k=aG L k/\k.oid=k.oid/\(ay L k 0).value=(ay L k 0).value/\(ay L k 1).value=(ay L k 1).value/\cA L (aX L k) g=cA L (aX L k) g'/\k=k/\aG L k=aG L k/\k.oid=k.oid/\(ay L k 0).value=(ay L k 0).value/\(ay L k 1).value=(ay L k 1).value/\aG L k=aG L k/\ay L k 0=ay L k 0/\ay L k 1=ay L k 1/\aG L k=aG L k/\k.oid=k.oid/\(ay L k 0).value=(ay L k 0).value/\(ay L k 1).value=(ay L k 1).value/\aG L k=aG L k/\k.oid=k.oid/\(ay L k 0).value=(ay L k 0).value/\(ay L k 1).value=(ay L k 1).value/\void=void/\false=false/\aG L k=aG L k/\k.oid=k.oid/\(ay L k 0).value=(ay L k 0).value/\(ay L k 1).value=(ay L k 1).value/\r0=r0) (au (decide ((eN L k g).count=4294967295)) (aw (r0=r0/\az (g+1)/\∃g',jb L k g'/\(ba L k+1-g').toNat<(ba L k+1-g).toNat/\g+1=g'/\L=L/\k=k/\n=n/\void=void/\k=k/\aG L k=aG L k/\k.oid=k.oid/\(ay L k 0).value=(ay L k 0).value/\(ay L k 1).value=(ay L k 1).value/\aG L k=aG L k/\ay L k 0=ay L k 0/\ay L k 1=ay L k 1/\aG L k=aG L k/\k.oid=k.oid/\(ay L k 0).value=(ay L k 0).value/\(ay L k 1).value=(ay L k 1).value/\cM (cA L (aX L k) g) g (Obj.mk 3 (eN L k g).count free.calls free.slots free.bytes)=cA L (aX L k) g'/\k=k/\aG L k=aG L k/\k.oid=k.oid/\(ay L k 0).value=(ay L k 0).value/\(ay L k 1).value=(ay L k 1).value/\aG L k=aG L k/\ay L k 0=ay L k 0/\ay L k 1=ay L k 1/\aG L k=aG L k/\k.oid=k.oid/\(ay L k 0).value=(ay L k 0).value/\(ay L k 1).value=(ay L k 1).value/\aG L k=aG L k/\k.oid=k.oid/\(ay L k 0).value=(ay L k 0).value/\(ay L k 1).value=(ay L k 1).value/\void=void/\false=false/\aG L k=aG L k/\k.oid=k.oid/\(ay L k 0).value=(ay L k 0).value/\(ay L k 1).value=(ay L k 1).value/\r0=r0)) (az (aE L k g)/\aw (az (aE L k g)/\r0=r0/\az ((ay L k 1).value-n)/\aw (au (!decide (g<=(ay L k 1).value-n)) ((aaM L k n)/\L=bR L k n) (aw (aw (∀(r0:Loop),(∃g_1,pC L k n g_1/\(ay L k 0).value=g_1/\L=L/\k=k/\n=n/\void=void/\k=k/\aG L k=aG L k/\k.oid=k.oid/\(ay L k 0).value=(ay L k 0).value/\(ay L k 1).value=(ay L k 1).value/\aG L k=aG L k/\ay L k 0=ay L k 0/\ay L k 1=ay L k 1/\aG L k=aG L k/\k.oid=k.oid/\(ay L k 0).value=(ay L k 0).value/\(ay L k 1).value=(ay L k 1).value/\p8 L k g=p8 L k g/\k=k/\aG L k=aG L k/\k.oid=k.oid/\(ay L k 0).value=(ay L k 0).value/\(ay L k 1).value=(ay L k 1).value/\aG L k=aG L k/\ay L k 0=ay L k 0/\ay L k 1=ay L k 1/\aG L k=aG L k/\k.oid=k.oid/\(ay L k 0).value=(ay L k 0).value/\(ay L k 1).value=(ay L k 1).value/\aG L k=aG L k/\k.oid=k.oid/\(ay L k 0).value=(ay L k 0).value/\(ay L k 1).value=(ay L k 1).value/\cW 1 g (aE L k g)=cW 1 g (aE L k g)/\aw (aG L k=aG L k/\k.oid=k.oid/\(ay L k 0).value=(ay L k 0).value/\(ay L k 1).value=(ay L k 1).value/\eN L k g=eN L k g/\eN L k g=eN L k g/\cW 1 g (aE L k g)=cW 1 g (aE L k g)/\aG L k=aG L k/\k.oid=k.oid/\(ay L k 0).value=(ay L k 0).value/\(ay L k 1).value=(ay L k 1).value/\r0=r0))/\∀(g_1:Int),pC L k n g_1->au (decide (g_1<=(ay L k 1).value)) (r0=r0/\r0=r0/\az ((ay L k 1).value-n)/\aw (au (!(decide (g_1<=(ay L k 1).value-n)||decide ((aS (p8 L k g) g_1).kind=0)||decide ((aS (p8 L k g) g_1).kind=3))) (r0=r0/\(aaM L k n)/\L=bR L k n) (r0=r0/\az (g_1+1)/\∃g',pC L k n g'/\(ba L k+1-g').toNat<(ba L k+1-g_1).toNat/\g_1+1=g'/\L=L/\k=k/\n=n/\void=void/\k=k/\aG L k=aG L k/\k.oid=k.oid/\(ay L k 0).value=(ay L k 0).value/\(ay L k 1).value=(ay L k 1).value/\aG L k=aG L k/\ay L k 0=ay L k 0/\ay L k 1=ay L k 1/\aG L k=aG L k/\k.oid=k.oid/\(ay L k 0).value=(ay L k 0).value/\(ay L k 1).value=(ay L k 1).value/\p8 L k g=p8 L k g/\k=k/\aG L k=aG L k/\k.oid=k.oid/\(ay L k 0).value=(ay L k 0).value/\(ay L k 1).value=(ay L k 1).value/\aG L k=aG L k/\ay L k 0=ay L k 0/\ay L k 1=ay L k 1/\aG L k=aG L k/\k.oid=k.oid/\(ay L k 0).value=(ay L k 0).value/\(ay L k 1).value=(ay L k 1).value/\aG L k=aG L k/\k.oid=k.oid/\(ay L k 0).value=(ay L k 0).value/\(ay L k 1).value=(ay L k 1).value/\cW 1 g (aE L k g)=cW 1 g (aE L k g)/\aw (aG L k=aG L k/\k.oid=k.oid/\(ay L k 0).value=(ay L k 0).value/\(ay L k 1).value=(ay L k 1).value/\eN L k g=eN L k g/\eN L k g=eN L k g/\cW 1 g (aE L k g)=cW 1 g (aE L k g)/\aG L k=aG L k/\k.oid=k.oid/\(ay L k 0).value=(ay L k 0).value/\(ay L k 1).value=(ay L k 1).value/\r0=r0)))) (aw (aw (az ((ay L k 1).value-n)/\az ((ay L k 1).value-n+1)/\aw (aw (aw (aw (aw (az ((ay L k 1).value-n)/\aw (aw (aw ((aJ L).le 1000/\au (jK L (lZ L k n g)) ((∃g_2,rU L (bR L k n) g_2/\Value.slice none 0 0=Value.slice none 0 0/\0=g_2/\L=mf L (bR L k n) g_2/\k=k/\n=n/\void=void/\k=k/\aG L k=aG L k/\k.oid=k.oid/\(ay L k 0).value=(ay L k 0).value/\(ay L k 1).value=(ay L k 1).value/\aG L k=aG L k/\ay L k 0=ay L k 0/\ay L k 1=ay L k 1/\aG L k=aG L k/\k.oid=k.oid/\(ay L k 0).value=(ay L k 0).value/\(ay L k 1).value=(ay L k 1).value/\lZ L k n g=lZ L k n g/\k=k/\aG L k=aG L k/\k.oid=k.oid/\(ay L k 0).value=(ay L k 0).value/\(ay L k 1).value=(ay L k 1).value/\aG L k=aG L k/\ay L k 0=ay L k 0/\ay L k 1=ay L k 1/\aG L k=aG L k/\k.oid=k.oid/\(ay L k 0).value=(ay L k 0).value/\(ay L k 1).value=(ay L k 1).value/\aG L k=aG L k/\k.oid=k.oid/\(ay L k 0).value=(ay L k 0).value/\(ay L k 1).value=(ay L k 1).value/\cW 1 g (aE L k g)=cW 1 g (aE L k g)/\aw (aG L k=aG L k/\k.oid=k.oid/\(ay L k 0).value=(ay L k 0).value/\(ay L k 1).value=(ay L k 1).value/\eN L k g=eN L k g/\eN L k g=eN L k g/\cW 1 g (aE L k g)=cW 1 g (aE L k g)/\aG L k=aG L k/\k.oid=k.oid/\(ay L k 0).value=(ay L k 0).value/\(ay L k 1).value=(ay L k 1).value/\BR L k n g=BR L k n g/\oh ((ay L k 1).value-n+1)=oh ((ay L k 1).value-n+1)/\oh (ay L k 1).value=oh (ay L k 1).value/\Cf L k n g=Cf L k n g/\oh ((ay L k 1).value-n)=oh ((ay L k 1).value-n)))/\∀(g_2:Int),rU L (bR L k n) g_2->au (decide (g_2<0)) False (aaL g L k n g_2)) ((∃g_2,rU L (bR L k n) g_2/\bK (aJ (dE L (lZ L k n g)))=bK (aJ (dE L (lZ L k n g)))/\0=g_2/\L=mf L (bR L k n) g_2/\k=k/\n=n/\void=void/\k=k/\aG L k=aG L k/\k.oid=k.oid/\(ay L k 0).value=(ay L k 0).value/\(ay L k 1).value=(ay L k 1).value/\aG L k=aG L k/\ay L k 0=ay L k 0/\ay L k 1=ay L k 1/\aG L k=aG L k/\k.oid=k.oid/\(ay L k 0).value=(ay L k 0).value/\(ay L k 1).value=(ay L k 1).value/\lZ L k n g=lZ L k n g/\k=k/\aG L k=aG L k/\k.oid=k.oid/\(ay L k 0).value=(ay L k 0).value/\(ay L k 1).value=(ay L k 1).value/\aG L k=aG L k/\ay L k 0=ay L k 0/\ay L k 1=ay L k 1/\aG L k=aG L k/\k.oid=k.oid/\(ay L k 0).value=(ay L k 0).value/\(ay L k 1).value=(ay L k 1).value/\aG L k=aG L k/\k.oid=k.oid/\(ay L k 0).value=(ay L k 0).value/\(ay L k 1).value=(ay L k 1).value/\cW 1 g (aE L k g)=cW 1 g (aE L k g)/\aw (aG L k=aG L k/\k.oid=k.oid/\(ay L k 0).value=(ay L k 0).value/\(ay L k 1).value=(ay L k 1).value/\eN L k g=eN L k g/\eN L k g=eN L k g/\cW 1 g (aE L k g)=cW 1 g (aE L k g)/\aG L k=aG L k/\k.oid=k.oid/\(ay L k 0).value=(ay L k 0).value/\(ay L k 1).value=(ay L k 1).value/\BR L k n g=BR L k n g/\oh ((ay L k 1).value-n+1)=oh ((ay L k 1).value-n+1)/\oh (ay L k 1).value=oh (ay L k 1).value/\Cf L k n g=Cf L k n g/\oh ((ay L k 1).value-n)=oh ((ay L k 1).value-n)/\dE L (lZ L k n g)=dE L (lZ L k n g)))/\∀(g_2:Int),rU L (bR L k n) g_2->au (decide (g_2<bK (aJ (dE L (lZ L k n g))))) ((0<=g_2/\g_2< ↑(aJ (dE L (lZ L k n g))))/\g_2.toNat<aJ (dE L (lZ L k n g))/\aw (az (g_2+1)/\∃g',rU L (bR L k n) g'/\(bK (aJ (dE L (bR L k n)))-g').toNat<(bK (aJ (dE L (bR L k n)))-g_2).toNat/\bK (aJ (dE L (lZ L k n g)))=bK (aJ (dE L (lZ L k n g)))/\g_2+1=g'/\cM (mf L (bR L k n) g_2) (aM (dE L (lZ L k n g)) g_2.toNat 0) (aS (lZ L k n g) (aM (dE L (lZ L k n g)) g_2.toNat 0))=mf L (bR L k n) g'/\k=k/\n=n/\void=void/\k=k/\aG L k=aG L k/\k.oid=k.oid/\(ay L k 0).value=(ay L k 0).value/\(ay L k 1).value=(ay L k 1).value/\aG L k=aG L k/\ay L k 0=ay L k 0/\ay L k 1=ay L k 1/\aG L k=aG L k/\k.oid=k.oid/\(ay L k 0).value=(ay L k 0).value/\(ay L k 1).value=(ay L k 1).value/\lZ L k n g=lZ L k n g/\k=k/\aG L k=aG L k/\k.oid=k.oid/\(ay L k 0).value=(ay L k 0).value/\(ay L k 1).value=(ay L k 1).value/\aG L k=aG L k/\ay L k 0=ay L k 0/\ay L k 1=ay L k 1/\aG L k=aG L k/\k.oid=k.oid/\(ay L k 0).value=(ay L k 0).value/\(ay L k 1).value=(ay L k 1).value/\aG L k=aG L k/\k.oid=k.oid/\(ay L k 0).value=(ay L k 0).value/\(ay L k 1).value=(ay L k 1).value/\cW 1 g (aE L k g)=cW 1 g (aE L k g)/\aw (aG L k=aG L k/\k.oid=k.oid/\(ay L k 0).value=(ay L k 0).value/\(ay L k 1).value=(ay L k 1).value/\eN L k g=eN L k g/\eN L k g=eN L k g/\cW 1 g (aE L k g)=cW 1 g (aE L k g)/\aG L k=aG L k/\k.oid=k.oid/\(ay L k 0).value=(ay L k 0).value/\(ay L k 1).value=(ay L k 1).value/\BR L k n g=BR L k n g/\oh ((ay L k 1).value-n+1)=oh ((ay L k 1).value-n+1)/\oh (ay L k 1).value=oh (ay L k 1).value/\Cf L k n g=Cf L k n g/\oh ((ay L k 1).value-n)=oh ((ay L k 1).value-n)/\dE L (lZ L k n g)=dE L (lZ L k n g)))) (aaL g L k n g_2))))))))))))))))))))) (aw ((aaM L k n)/\L=bR L k n))))))))))))))))))))))):=by
 delta au ay aaM aaL aaK aF aE az aw
 refine⟨rfl,rfl,fun h=>oZ (uM (HQ h) (by omega)) (by omega),fun h=>⟨rfl,fun h2=>oZ (uM (ZR h h2) (by omega)) (by omega),fun h2=>⟨rfl,fun h3=>oZ (uM (Yw h h2 h3) (by omega)) (by omega),fun h3=>?_⟩⟩⟩
 obtain⟨e,e1,e2⟩:=Rm h h2 h3;obtain⟨_,a0,a1,a2,a3,a4⟩:=pn e;have hkd:=A8 (mO h2).1 (mO h2).2;have hlen:=jC hL;have hll:aJ L=L.length:=rfl;have h3':=h3;rw[e1,e2]at h3';rw[e1,e2];have hr:∀x:Int,-1000<=x->x<=1000->bg IntKind.i64 x:=fun x h1 h2=>by simp only[bg,ck];omega
 refine⟨fun _=>hr _ (by omega) (by omega),rfl,fun h4=>oZ (JO e (by simp only[Bool.not_eq_true',Bool.and_eq_false_iff,decide_eq_false_iff_not]at h4;omega)) (by omega),fun h4=>⟨rfl,(show L.length<=1000 by omega),fun hn=>?_,fun _=>⟨rfl,rfl,fun h'=>?_,fun _=>⟨rfl,fun h'=>?_,fun _=>⟨rfl,fun h'=>?_,fun _=>⟨rfl,rfl,rfl,fun r0=>?_⟩⟩⟩⟩⟩⟩
 ·exfalso
  have:=ak hn;omega
 ·rw[h]at h';exact absurd h' (by decide)
 ·rw[h2]at h';exact absurd h' (by decide)
 ·rw[h3']at h';exact absurd h' (by decide)
 simp only[Bool.not_eq_false',af,ah]at h4;obtain⟨hn1,hn2⟩:=h4;have h0:=SV e hn1 hn2;have hcnt:∀j:Nat,j<L.length->0<=(aM L j free).count/\(aM L j free).count<=4294967295:=fun j hj=>⟨(kE (dH hL j hj)).1,(kE (dH hL j hj)).2.1⟩
 have hci:∀j:Nat,j<L.length->bg IntKind.i64 ((aM L j free).count+1):=fun j hj=>by have:=hcnt j hj;simp only[bg,ck];omega
 refine⟨⟨aX L k,⟨by omega,by omega,xD⟩,rfl,?_⟩,fun g hg=>⟨fun hgl=>?_,fun hgl=>?_⟩⟩
 ·have hx:L=cA L (aX L k) (aX L k):=D3;(repeat' apply And.intro)<;>first|with_reducible rfl|exact hx
 ·obtain⟨g0,g1,g2⟩:=hg;have hgl:=ak hgl;have hgn:g.toNat<L.length:=by omega
  have hgz:(cA L (aX L k) g).length=L.length:=my;have hO:eN L k g=aM L g.toNat free:=by unfold eN;rw[fH (by omega) (by omega),Gm (by omega)]
  refine⟨rfl,rfl,fun hk0=>?_,fun hk0=>⟨fun hc=>?_,fun hc=>?_⟩⟩
  ·obtain⟨f1,f2⟩:=GD (o:=aM L g.toNat free) (by rw[<-hO];simpa using hk0)
   have hx:cA L (aX L k) g=cA L (aX L k) (g+1):=(EG (by omega) f1).symm
   refine⟨rfl,hr _ (by omega) (by omega),g+1,⟨by omega,by omega,o7 g2 f2⟩,by omega,rfl,?_⟩
   (repeat' apply And.intro)<;>first|with_reducible rfl|exact hx
  ·rw[hO]at hk0 hc;obtain⟨f1,f2⟩:=Mp (o:=aM L g.toNat free) (by simpa using hk0) (by have:=ak hc;omega)
   have hp:=(lu (L:=cA L (aX L k) g) (i:=g) (by omega) (by omega) (hgz▸Cm (dH hL g.toNat hgn))).1
   have hx:cM (cA L (aX L k) g) g (Obj.mk 3 (eN L k g).count free.calls free.slots free.bytes)=cA L (aX L k) (g+1):=by rw[hO];exact hp.trans (HB (by omega) (by omega) g0 f1)
   refine⟨rfl,rfl,hr _ (by omega) (by omega),g+1,⟨by omega,by omega,o7 g2 f2⟩,by omega,rfl,?_⟩
   (repeat' apply And.intro)<;>first|with_reducible rfl|exact hx
  ·rw[hO]at hk0 hc;have hc:=aj hc;have:=hcnt _ hgn;obtain⟨f1,f2⟩:=MF (o:=aM L g.toNat free) (by simpa using hk0) (by omega)
   obtain⟨i1,i2,i3,i4,i5,i6,i7,i8⟩:=Us hL e hkd g0 hgl g2 f2;have hcg:bg IntKind.i64 ((eN L k g).count+1):=by rw[hO];exact hci _ hgn
   refine⟨hcg,rfl,hcg,rfl,hr _ (by omega) (by omega),rfl,fun hc2=>oZ (Dg h0 (.inr (by rw[i1];simp only[Bool.not_eq_true',decide_eq_false_iff_not]at hc2;omega))) (by omega),fun hc2=>⟨rfl,rfl,fun r1=>⟨⟨aX L k,⟨by omega,by omega,HE (by omega)⟩,rfl,?_⟩,fun j hj=>⟨fun hjl=>?_,fun hjl=>?_⟩⟩⟩⟩
   ·(repeat' apply And.intro)<;>first|with_reducible rfl|exact hx
   ·obtain⟨j0,j1,j2⟩:=hj;have hjl:=ak hjl;have hgj:aS (p8 L k g) j=aM (eu L k) j.toNat free:=by rw[i3];exact fH (by omega) (by omega)
    rw[hgj];have hkk:=kE (dH i5 j.toNat (by omega))
    refine⟨rfl,rfl,hr _ (by omega) (by omega),rfl,fun hb=>⟨rfl,?_⟩,fun hb=>⟨rfl,hr _ (by omega) (by omega),j+1,⟨by omega,by omega,?_⟩,by omega,rfl,?_⟩⟩
    ·simp only[Bool.not_eq_true',Bool.or_eq_false_iff,decide_eq_false_iff_not]at hb;have hbz:nm (aM (eu L k) j.toNat free)=true:=by unfold nm;simp only[Bool.or_eq_true,ah];omega
     exact oZ (P5 h0 (NG (by omega) (by omega) (by omega) (by omega) hbz)) (by omega)
    ·simp only[Bool.not_eq_false',Bool.or_eq_true,ah]at hb;by_cases hjn:j<=ba L k-n
     ·exact HE (by omega)
     ·have hbz:nm (aM (eu L k) j.toNat free)=false:=by unfold nm;simp only[Bool.or_eq_false_iff,decide_eq_false_iff_not];omega
      rw[Rv (by omega) hbz];exact j2
    ·(repeat' apply And.intro)<;>first|with_reducible rfl|exact hx
   ·obtain⟨j0,j1,j2⟩:=hj;have hjl:=aj hjl;have:j=ba L k+1:=by omega
    subst this;simp only[Bool.not_eq_false',ah]at hc2;have hE:=SJ h0 (by rw[i1];omega) (by rw[i1];omega) j2
    obtain⟨l1,l2,l3,l4⟩:=QR hL e hkd e2 g0 hgl g2 f2 hE;rw[l1];have hul:(dE L (bR L k n)).length<=L.length:=R5;have hu:bK (aJ (dE L (bR L k n)))=((dE L (bR L k n)).length:Int):=rfl
    refine⟨rfl,rfl,hr _ (by omega) (by omega),hr _ (by omega) (by omega),rfl,rfl,rfl,rfl,rfl,hr _ (by omega) (by omega),rfl,rfl,rfl,(show L.length<=1000 by omega),fun hno=>?_,fun _=>⟨⟨0,⟨by omega,by omega⟩,rfl,rfl,?_⟩,fun t ht=>⟨fun htl=>?_,fun htl=>⟨⟨l4,hE.symm⟩,QH l3 l2 ?_⟩⟩⟩⟩
    ·rw[LB l3 (by omega)]at hno;exact absurd hno (by decide)
    ·have hx:L=mf L (bR L k n) 0:=rfl;(repeat' apply And.intro)<;>first|with_reducible rfl|exact hx
    ·obtain⟨t0,t1⟩:=ht;have htl:=ak htl;rw[hu]at htl;have hx:cM (mf L (bR L k n) t) (aM (dE L (bR L k n)) t.toNat 0) (aS (bR L k n) (aM (dE L (bR L k n)) t.toNat 0))=mf L (bR L k n) (t+1):=M4 t0;refine⟨⟨t0,htl⟩,(show t.toNat<(dE L (bR L k n)).length by omega),rfl,hr _ (by omega) (by omega),t+1,⟨by omega,by omega⟩,by rw[hu];omega,rfl,rfl,?_⟩
     (repeat' apply And.intro)<;>first|with_reducible rfl|exact hx
    ·have htl:=aj htl;rw[hu]at htl;obtain⟨t0,t1⟩:=ht;omega
 ·obtain⟨g0,g1,g2⟩:=hg;have hgl:=aj hgl;have:g=ba L k+1:=by omega
  subst this;obtain⟨m1,m2,m3⟩:=Ob 1 g2;exact⟨rfl,oZ (Dg h0 (.inl (by unfold fZ;rw[m1];omega))) (by omega)⟩
theorem xR[Fen](hn:Fen.nar)(L:List Sx.Obj)(k:Key)(n:Int)(hL:aP L):aL Tryz.prog 158 [.lp 0 0,.key k,.it .i64 n] [.store tS eS L] (z6 (.tp [.key (cY L k n),.it .i64 (cU L k n)]) (bR L k n)) (fun _ _=>False):=
 JD hn (inl:=(abE [205,204,209,210,211,212,213,214,1000000+223])) (ann:=(kb [(3000+223,1,Vm [0,1] (fun g=> [(3,.it .i64 g)]) 11 (fun g=> .store tS eS (cA L (aX L k) g)) (jb L k) (Ea (ba L k) 1)),(9000+223,1,X2 [0,1] (fun g=> [(3,.it .i64 g)]) (pC L k n) (Ea (ba L k) 1)),(158,16,Vm [0,6,7,9,10,90,91] (fun g=> [(92,.it .i64 g)]) 0 (fun g=> .store tS eS (mf L (bR L k n) g)) (rU L (bR L k n)) (bK (aJ (dE L (bR L k n)))))])) (aH bE (aH bT (aH eT (aH r7 aO)))) (aV dv (aV xx (aV GA aU))) (dT gD) (I2 L k n hL) (by kernel_rfl)
theorem IE[Fen](L:List Sx.Obj)(k:Key)(n:Int)(hL:aP L):aL Tryz.prog 158 [.lp 0 0,.key k,.it .i64 n] [.store tS eS L] (z6 (.tp [.key (cY L k n),.it .i64 (cU L k n)]) (bR L k n)) (fun _ _=>False):=by
 by_cases hn:Fen.nar
 ·exact xR hn L k n hL
 ·exact aL.lift (i:=⟨True⟩) hn (@xR ⟨True⟩ trivial L k n hL)
theorem Jt[Fen]:k7 Tryz.prog 158 N0:=
 na (m:=fun x=>Z5.cn x 0) (ow Ov (fun _=>rfl)) (fun _=>rfl) (fun _ _=>rfl) (fun x=>bk (inl:=(abE [205,204,209,210,211,212,213,214,1000000+223])) (ann:=bj) (aH bE (aH bT (aH eT (aH r7 aO)))) (aV dv (aV xx (aV GA aU))) (dT gD) (Gw x.1 x.2.1) (by kernel_rfl)) (fun x=>bk (inl:=(abE [205,204,209,210,211,212,213,214,1000000+223])) (ann:=bj) (aH bE (aH bT (aH eT (aH r7 aO)))) (aV dv (aV xx (aV GA aU))) (dT gD) (Fq x.1 x.2.1) (by kernel_rfl)) fun L x hL _ _=>IE L x.1 x.2.1 hL
end Go.Proofs.YtmfbohanboiklaaGreat
namespace Go.Sx
def bW(h:Int):Int:=64*16^(h-1).toNat
def pA(h:Int):Prop:=0<=h/\h<=9
def Cy(h g:Int):Prop:=0<=g/\(g=0\/g<=h-1)
def U6:Ct:=EU (bM iA jx) (fun x=>some (pA x.1)) fun x=> .it .i64 (bW x.1)
structure Wk where
 pos:Key
 adr:Int
 rts:Int
 kpr:Key
 dep:Int
 hi:Int
structure Wr where
 kd:Int
 pos:Key
 adr:Int
 kpr:Key
 dep:Int
def YU:Wr:=⟨0,void,0,void,0⟩
def Yp(r m g:Int):Int:=r+(if 2<=g/\(j7 m 1&& !j7 r 1)=true then 1 else 0)+(if 4<=g/\(j7 m 2&& !j7 r 2)=true then 2 else 0)+(if 8<=g/\(j7 m 4&& !j7 r 4)=true then 4 else 0)
def uq(r m:Int):Int:=Yp r m 8
def qX(r:Int)(p:Key):Key:=if r.tmod 4=0 then p else dc p 1
def qC(w:Wk)(h:Key):Bool:=decide (h.kind=1)&&decide (1<=h.value)&&decide (h.value<=8)&&(decide (w.dep=0)||decide (h.value<w.hi))
def DJ(r:Int)(k was:Key):Key:=if k.kind=6/\r<4 then k else was
def lJ(L:List Obj)(w:Wk)(p:Key)(h k:Key):Wr×Option Wk:=
 if 8<=w.dep then(⟨3,void,0,w.kpr,0⟩,none)
 else if qC w h then
  (if w.adr.tdiv (bW h.value)<14 then(YU,some ⟨eU L p (w.adr.tdiv (bW h.value)),w.adr.tmod (bW h.value),uq w.rts p.rights,DJ (uq w.rts p.rights) k w.kpr,w.dep+1,h.value⟩)
   else(⟨2,void,0,DJ (uq w.rts p.rights) k w.kpr,0⟩,none))
 else(⟨4,void,0,w.kpr,0⟩,none)
def Qi(L:List Obj):Nat->Wk->Wr
 |0,w=>⟨3,void,0,w.kpr,0⟩
 |n+1,w=>
  if(aI L w.pos).kind=3 then(if w.adr<64 then⟨0,qX w.rts (aI L w.pos),w.adr,w.kpr,w.dep⟩else⟨2,void,0,w.kpr,0⟩)
  else if(aI L w.pos).kind=2 then match lJ L w (aI L w.pos) (eU L (dc (aI L w.pos) 0) 15) (eU L (dc (aI L w.pos) 0) 14)with
   | (r,none)=>r
   | (_,some w')=>Qi L n w'
  else⟨1,void,0,w.kpr,0⟩
def jg(L:List Obj)(n:Nat)(w:Wk):Wr:=Qi L n w
def xG(k:Key)(a hi:Int):Wk:=⟨k,a,0,void,0,hi⟩
def eY(L:List Obj)(k:Key)(a:Int):Int:=if aJ L=0 then 1 else if cJ L k then(if a<0 then 4 else 0)else 2
def aT(L:List Obj)(k:Key)(a:Int):Wr:=if eY L k a=0 then jg L 9 (xG k a 0)else YU
def dW(r:Wr):Key:=if r.kd=0 then r.pos else void
def dO(r:Wr):Int:=if r.kd=0 then r.adr else 0
def eo(r:Wr):Key:=if r.kd=0 then r.kpr else void
def eR(r:Wr):Int:=if r.kd=0 then r.dep else 0
def gN(r:Wr):Key:=if r.kd=0 then void else r.kpr
def gQ(r:Wr)(a:Int):Int:=if r.kd=0 then 0 else a
def gi(r:Wr):Int:=r.kd
def YL(r:Wr):V:= .ag [.key (dW r),.it .i64 (dO r),.key (eo r),.it .i64 (eR r)]
def aan(r:Wr)(a:Int):V:= .ag [.it .i64 (gi r),.key (gN r),.it .i64 (gQ r a)]
def P8(L:List Obj)(k:Key)(a:Int):V:= .tp [YL (aT L k a),aan (aT L k a) a,.it .i64 (eY L k a)]
abbrev tW:Nat:=296
def wkV(s:V)(g:Wk):V:= .ag [s,.key g.pos,.it .i64 g.adr,.it .i64 g.rts,.key g.kpr,.it .i64 g.dep,.it .i64 g.hi,.cb false]
def su(L:List Obj)(k:Key)(a hi:Int)(g:Wk):Prop:=
 (0<=g.adr/\g.adr<=a)/\(0<=g.rts/\g.rts<=7)/\(0<=g.dep/\g.dep<=8)/\(g.dep=0->g.hi=hi)/\(g.dep≠0->g.hi<=8)/\jg L (9-g.dep).toNat g=jg L 9 (xG k a hi)
def u6(g:Wk):Nat:=(9-g.dep).toNat
def U2:Ct:=EU (bM sA (bM kA (bM iA jx))) (fun _=>none) fun x=>P8 (ye x.1) x.2.1 x.2.2.1
def spX(nid:Nat):V:= .mp nid
def spN(nid:Nat):List aQ:= [.mp .i64 [3,2] [.fn 234 [],.fn 235 []]]
theorem Kg{g:Int}(h:1<=g):bW g*16=bW (g+1):=by
 unfold bW;have e:(g+1-1).toNat=(g-1).toNat+1:=by omega
 rw[e,Int.pow_succ];generalize (16:Int)^(g-1).toNat=x
 omega
theorem tv{h:Int}(hh:h<=1):bW h=64:=by
 unfold bW;have e:(h-1).toNat=0:=by omega
 rw[e];rfl
theorem xe{h:Int}(hh:h<=9):64<=bW h/\bW h<=274877906944:=by
 by_cases h1:h<=1
 ·rw[tv h1];omega
 have:h=2\/h=3\/h=4\/h=5\/h=6\/h=7\/h=8\/h=9:=by omega
 rcases this with rfl|rfl|rfl|rfl|rfl|rfl|rfl|rfl<;>decide
theorem VN:∀r m:Fin 8,bw .or .i64 (r.val:Int) (m.val:Int)=uq (r.val:Int) (m.val:Int)/\0<=uq (r.val:Int) (m.val:Int)/\uq (r.val:Int) (m.val:Int)<=7:=by decide
theorem FM{r:Int}(h0:0<=r)(h1:r<=7):∃x:Fin 8,(x.val:Int)=r:=⟨⟨r.toNat,by omega⟩,by simp;omega⟩
theorem Yg{r m:Int}(h0:0<=r)(h1:r<=7)(m0:0<=m)(m1:m<=7):bw .or .i64 r m=uq r m/\0<=uq r m/\uq r m<=7:=by
 obtain⟨x,rfl⟩:=FM h0 h1;obtain⟨y,rfl⟩:=FM m0 m1;exact VN x y
theorem Kz:∀r:Fin 8,decide (bw .and .i64 (r.val:Int) 4=0)=decide ((r.val:Int)<4):=by decide
theorem aaf{r:Int}(h0:0<=r)(h1:r<=7):decide (bw .and .i64 r 4=0)=decide (r<4):=by
 obtain⟨x,rfl⟩:=FM h0 h1;exact Kz x
theorem Hn{L:List Obj}{k:Key}(h:(aI L k).kind=2\/(aI L k).kind=3):aI L k=k/\bm L k=true:=by
 unfold aI at h⊢;split at h
 ·simp[void]at h
 ·rename_i hn;rw[aq hn];refine⟨rfl,?_⟩;simp only[Bool.or_eq_true,Bool.not_eq_true',af,not_or,Bool.not_eq_true,not_and]at hn;obtain⟨⟨h1,h2⟩,h3⟩:=hn;have hk:bc k=true:=by simpa using h2
  have:bq k=true:=by
   unfold bq dt;rw[hk];rcases h with h|h<;>simp[h]
  have:=h3 this;simpa using this
theorem XK{k:Key}(h:bc k=true)(h2:k.kind=2):Key.mk 2 k.oid k.count void.call void.rights void.value=dc k 0:=by
 obtain⟨a,b,c,d,e,f⟩:=k;simp only at h2;subst h2;simp[bc,eE,dt,ft,iU]at h;simp[dc,void];omega
theorem W7{L:List Obj}{k:Key}(h:bm L k=true)(h2:k.kind=2):bm L (dc k 0)=true:=by
 have hk:=(fC h).1
 have hk':bc (dc k 0)=true:=by
  have hk1:=hk;simp only[bc,af,ah]at hk1⊢;obtain⟨⟨⟨⟨⟨⟨⟨x1,x2⟩,x3⟩,x4⟩,x5⟩,x6⟩,x7⟩,x8⟩:=hk1;exact⟨⟨⟨⟨⟨⟨⟨x1,x2⟩,Int.le_refl 0⟩,by show 0<=ea k.kind;omega⟩,x5⟩,x6⟩,x7⟩,x8⟩
 have hn:bu (dc k 0)=bu k:=by unfold bu;rw[hk,hk'];rfl
 have hw:fX (dc k 0)=fX k:=by unfold fX;rw[hn];rfl
 have hc:∀o,cy (dc k 0) o=cy k o:=fun o=>by unfold cy;rw[hn,hw,hk,hk'];rfl
 have hd:bq (dc k 0)=bq k:=by unfold bq;rw[hk,hk'];rfl
 unfold bm at h⊢;rw[hd,hc];exact h
theorem E4{L:List Obj}{k:Key}{i:Int}(h:bm L k=true)(h2:k.kind=2)(h0:0<=i)(h1:i<16):bd L k i=eU L k i:=by
 have hl:=fC h
 have hA:br L k 2 false=0:=by
  unfold br;rw[aq (by have:=hl.2.1;have:=hl.2.2.1;unfold aJ;omega),aq (by rw[h,h2];simp),aq (by simp)]
 unfold bd dC mS;rw[hA,ar rfl,decide_eq_true h0,decide_eq_true h1];rfl
theorem O4{L:List Obj}{k:Key}{i:Int}(h:bm L k=true)(h2:k.kind=2)(h0:0<=i)(h1:i<16):bd L (Key.mk 2 k.oid k.count void.call void.rights void.value) i=eU L (dc k 0) i:=by
 rw[XK (fC h).1 h2];exact E4 (W7 h h2) h2 h0 h1
theorem go_eq{L:List Obj}{g:Wk}(h0:0<=g.dep)(h8:g.dep<=8):jg L (9-g.dep).toNat g=
  if(aI L g.pos).kind=3 then(if g.adr<64 then⟨0,qX g.rts (aI L g.pos),g.adr,g.kpr,g.dep⟩else⟨2,void,0,g.kpr,0⟩)
  else if(aI L g.pos).kind=2 then match lJ L g (aI L g.pos) (eU L (dc (aI L g.pos) 0) 15) (eU L (dc (aI L g.pos) 0) 14)with
   | (r,none)=>r
   | (_,some w')=>jg L (8-g.dep).toNat w'
  else⟨1,void,0,g.kpr,0⟩:=by
 have e:(9-g.dep).toNat=(8-g.dep).toNat+1:=by omega
 rw[e];rfl
theorem S9{L:List Obj}{g:Wk}(h0:0<=g.dep)(h8:g.dep<=8)(h3:(aI L g.pos).kind≠3)(h2:(aI L g.pos).kind≠2):jg L (9-g.dep).toNat g=⟨1,void,0,g.kpr,0⟩:=by
 rw[go_eq h0 h8,aq h3,aq h2]
theorem Vz{L:List Obj}{g:Wk}(h0:0<=g.dep)(h8:g.dep<=8)(h3:(aI L g.pos).kind=3)(h:¬g.adr<64):jg L (9-g.dep).toNat g=⟨2,void,0,g.kpr,0⟩:=by
 rw[go_eq h0 h8,ar h3,aq h]
theorem HW{L:List Obj}{g:Wk}(h0:0<=g.dep)(h8:g.dep<=8)(h3:(aI L g.pos).kind=3)(h:g.adr<64):jg L (9-g.dep).toNat g=⟨0,qX g.rts (aI L g.pos),g.adr,g.kpr,g.dep⟩:=by
 rw[go_eq h0 h8,ar h3,ar h]
theorem XB{L:List Obj}{g:Wk}(h0:0<=g.dep)(h8:g.dep<=8)(h2:(aI L g.pos).kind=2)(h:¬g.dep<8):jg L (9-g.dep).toNat g=⟨3,void,0,g.kpr,0⟩:=by
 rw[go_eq h0 h8,aq (by omega),ar h2,lJ,ar (by omega)]
theorem QF{L:List Obj}{g:Wk}(h0:0<=g.dep)(h8:g.dep<=8)(h2:(aI L g.pos).kind=2)(h:g.dep<8)(hf:qC g (eU L (dc (aI L g.pos) 0) 15)=false):jg L (9-g.dep).toNat g=⟨4,void,0,g.kpr,0⟩:=by
 rw[go_eq h0 h8,aq (by omega),ar h2,lJ,aq (by omega),hf]
 rfl
theorem GC{L:List Obj}{g:Wk}(h0:0<=g.dep)(h8:g.dep<=8)(h2:(aI L g.pos).kind=2)(h:g.dep<8)(hf:qC g (eU L (dc (aI L g.pos) 0) 15)=true)
  (hs:¬g.adr.tdiv (bW (eU L (dc (aI L g.pos) 0) 15).value)<14):jg L (9-g.dep).toNat g=⟨2,void,0,DJ (uq g.rts (aI L g.pos).rights) (eU L (dc (aI L g.pos) 0) 14) g.kpr,0⟩:=by
 rw[go_eq h0 h8,aq (by omega),ar h2,lJ,aq (by omega),hf,ar rfl,aq hs]
def Ql(L:List Obj)(g:Wk):Wk:=⟨eU L (aI L g.pos) (g.adr.tdiv (bW (eU L (dc (aI L g.pos) 0) 15).value)),g.adr.tmod (bW (eU L (dc (aI L g.pos) 0) 15).value),uq g.rts (aI L g.pos).rights,
 DJ (uq g.rts (aI L g.pos).rights) (eU L (dc (aI L g.pos) 0) 14) g.kpr,g.dep+1,(eU L (dc (aI L g.pos) 0) 15).value⟩
theorem Ub{L:List Obj}{g:Wk}(h0:0<=g.dep)(h8:g.dep<=8)(h2:(aI L g.pos).kind=2)(h:g.dep<8)(hf:qC g (eU L (dc (aI L g.pos) 0) 15)=true)
  (hs:g.adr.tdiv (bW (eU L (dc (aI L g.pos) 0) 15).value)<14):jg L (9-g.dep).toNat g=jg L (9-(g.dep+1)).toNat (Ql L g):=by
 rw[go_eq h0 h8,aq (by omega),ar h2,lJ,aq (by omega),hf,ar rfl,ar hs]
 have e:(9-(g.dep+1)).toNat=(8-g.dep).toNat:=by omega
 rw[e];rfl
theorem Cu{g:Wk}{h:Key}:qC g h=true↔h.kind=1/\1<=h.value/\h.value<=8/\(g.dep=0\/h.value<g.hi):=by
 simp[qC,and_assoc]
theorem vu{a e:Int}(h0:0<=a)(he:64<=e):0<=a.tdiv e/\a.tdiv e<=a/\0<=a.tmod e/\a.tmod e<=a:=by
 rw[Int.tdiv_eq_ediv_of_nonneg h0,Int.tmod_eq_emod_of_nonneg h0];have h1:=Int.ediv_nonneg h0 (show 0<=e by omega)
 have h2:=Int.ediv_le_self e h0;have h3:=Int.emod_nonneg a (show e≠0 by omega)
 have h4:=Int.emod_add_mul_ediv a e;have h5:=Int.mul_nonneg (show 0<=e by omega) h1
 omega
theorem UA{L:List Obj}{k:Key}{a hi:Int}{g:Wk}(hI:su L k a hi g)(h2:(aI L g.pos).kind=2)(h:g.dep<8)(hf:qC g (eU L (dc (aI L g.pos) 0) 15)=true)
  (hs:g.adr.tdiv (bW (eU L (dc (aI L g.pos) 0) 15).value)<14):su L k a hi (Ql L g)/\u6 (Ql L g)<u6 g:=by
 obtain⟨⟨a1,a2⟩,⟨r1,r2⟩,⟨d1,d2⟩,e1,e2,e3⟩:=hI;have hf':=Cu.1 hf;have he:=xe (show(eU L (dc (aI L g.pos) 0) 15).value<=9 by omega)
 have hd:=vu a1 he.1;have hp:=qi (lk L g.pos);have ho:=Yg r1 r2 hp.1 hp.2;refine⟨⟨⟨hd.2.2.1,by have:=hd.2.2.2;simp only[Ql];omega⟩,ho.2,⟨by simp only[Ql];omega,by simp only[Ql];omega⟩,fun h=>?_,fun _=>hf'.2.2.1,?_⟩,?_⟩
 ·simp only[Ql]at h;omega
 ·rw[<-e3,Ub d1 d2 h2 h hf hs];rfl
 ·unfold u6;simp only[Ql];omega
theorem WH{L:List Obj}{k:Key}{a:Int}(x y:Int):jg L 9 (xG k a x)=jg L 9 (xG k a y):=by
 show Qi L (8+1) _=Qi L (8+1) _
 unfold Qi;simp only[xG,lJ,qC];rfl
theorem aat{L:List Obj}{k:Key}{a:Int}(h:¬a<0)(hi:Int):su L k a hi (xG k a hi):=
 ⟨⟨by simp only[xG];omega,by simp only[xG];omega⟩,by simp[xG],by simp[xG],fun _=>rfl,fun h=>absurd rfl h,rfl⟩
theorem Y7{L:List Obj}{k:Key}{a hi:Int}{g:Wk}(hI:su L k a hi g)(hE:eY L k a=0):aT L k a=jg L (9-g.dep).toNat g:=by
 unfold aT;rw[ar hE,hI.2.2.2.2.2];exact WH _ _
theorem Ih{L:List Obj}{k:Key}{a e:Int}(h:eY L k a=e)(he:e≠0):void=dW (aT L k a)/\0=dO (aT L k a)/\void=eo (aT L k a)/\0=eR (aT L k a)/\0=gi (aT L k a)/\void=gN (aT L k a)/\0=gQ (aT L k a) a/\e=eY L k a:=by
 have:aT L k a=YU:=by unfold aT;rw[aq (by omega)]
 rw[this,h];exact⟨rfl,rfl,rfl,rfl,rfl,rfl,rfl,rfl⟩
theorem z8{L:List Obj}{k:Key}{a hi d:Int}{g:Wk}{p:Key}(hI:su L k a hi g)(hE:eY L k a=0)(h:jg L (9-g.dep).toNat g=⟨d,void,0,p,0⟩)(hd:d≠0):
  void=dW (aT L k a)/\0=dO (aT L k a)/\void=eo (aT L k a)/\0=eR (aT L k a)/\d=gi (aT L k a)/\p=gN (aT L k a)/\a=gQ (aT L k a) a/\0=eY L k a:=by
 rw[Y7 hI hE,h,hE];simp only[dW,dO,eo,eR,gi,gN,gQ,aq hd];simp
theorem Uh{L:List Obj}{k:Key}{a hi ad dp:Int}{g:Wk}{q p:Key}(hI:su L k a hi g)(hE:eY L k a=0)(h:jg L (9-g.dep).toNat g=⟨0,q,ad,p,dp⟩):
  q=dW (aT L k a)/\ad=dO (aT L k a)/\p=eo (aT L k a)/\dp=eR (aT L k a)/\0=gi (aT L k a)/\void=gN (aT L k a)/\0=gQ (aT L k a) a/\0=eY L k a:=by
 rw[Y7 hI hE,h,hE];exact⟨rfl,rfl,rfl,rfl,rfl,rfl,rfl,rfl⟩
theorem Az(L:List Obj)(v:Key):(!decide (bF v=0)||bq v&&decide (aK L<=cw v))= !cJ L v:=by
 rw[<-tz]
 have:decide (aK L<=cw v)= !decide (cw v<aK L):=by
  rw[Bool.eq_iff_iff];simp
 rw[this];cases decide (bF v=0)<;>cases bq v<;>cases decide (cw v<aK L)<;>rfl
theorem wE1{L:List Obj}{k:Key}{a:Int}(h:decide (aK L=0)=true):eY L k a=1:=by
 have h:=ak h;unfold aK at h;unfold eY;rw[ar (by omega)]
theorem Ya{L:List Obj}{k:Key}{a:Int}(h:decide (aK L=0)=false):eY L k a=if cJ L k then(if a<0 then 4 else 0)else 2:=by
 have h:=aj h;unfold aK at h;unfold eY;rw[aq (by omega)]
def dz(L:List Obj)(k:Key)(a n:Int):Int:=if eY L k a=0 then(if n<0\/64<n then 4 else 0)else eY L k a
def dn(L:List Obj)(k:Key)(a n:Int)(w:Bool):Int:=if dz L k a n=0 then(if(aT L k a).kd=0 then(if 64<(aT L k a).adr+n then 5 else if(w&& !decide ((aT L k a).pos.rights=0))=true then 6 else 0)else(aT L k a).kd)else 0
def iq(L:List Obj)(k:Key)(a n:Int)(w:Bool):Key:=if dn L k a n w=0 then void else(aT L k a).kpr
def ij(L:List Obj)(k:Key)(a n:Int)(w:Bool):Int:=if dn L k a n w=0 then 0 else a
def vP(L:List Obj)(k:Key)(a n:Int)(w:Bool):Bool:=decide (dz L k a n=0)&&decide (dn L k a n w=0)
def cV(L:List Obj)(k:Key)(a n:Int)(w:Bool):Wr:=if vP L k a n w=true then aT L k a else YU
def afV(L:List Obj)(k:Key)(a n:Int)(w:Bool):V:= .ag [.it .i64 (dn L k a n w),.key (iq L k a n w),.it .i64 (ij L k a n w)]
def nE(L:List Obj)(k:Key)(a n:Int):ByteArray:=if vP L k a n false=true then eP L (dW (cV L k a n false)) (dO (cV L k a n false)) n else⟨#[]⟩
def oT(L:List Obj)(k:Key)(a:Int)(s:ByteArray):List Obj:=if vP L k a (du s) true=true then fY L (dW (cV L k a (du s) true)) (dO (cV L k a (du s) true)) s else L
def aaH(L:List Obj)(k:Key)(a n:Int)(w:Bool):V:= .tp [YL (cV L k a n w),afV L k a n w,.it .i64 (dz L k a n)]
def ZE:Ct:=EU (bM sA (bM kA (bM iA (bM iA (bM bA jx))))) (fun _=>none) fun x=>aaH (ye x.1) x.2.1 x.2.2.1 x.2.2.2.1 x.2.2.2.2.1
def aag:Ct:=EU (bM sA (bM kA (bM iA (bM iA jx)))) (fun _=>none) fun x=> .tp [.st (nE (ye x.1) x.2.1 x.2.2.1 x.2.2.2.1),afV (ye x.1) x.2.1 x.2.2.1 x.2.2.2.1 false,.it .i64 (dz (ye x.1) x.2.1 x.2.2.1 x.2.2.2.1)]
def Zm:kr:=X0 GP (fun x=>aR x.2.2) (fun L x=>aP L/\aR x.2.2) (fun L x=> .tp [afV L x.1 x.2.1 (du x.2.2) true,.it .i64 (dz L x.1 x.2.1 (du x.2.2))]) fun L x=>oT L x.1 x.2.1 x.2.2
theorem SR{L:List Obj}{k:Key}{r:Int}(h:bm L k=true)(h3:k.kind=3):bm L (qX r k)=true/\(qX r k).kind=3:=by
 unfold qX;split
 ·exact⟨h,h3⟩
 ·refine⟨?_,h3⟩;have hk:=(fC h).1;have hm:ea k.kind=1:=by rw[h3];rfl
  have hk':bc (dc k 1)=true:=by
   have hk1:=hk;simp only[bc,af,ah]at hk1⊢;obtain⟨⟨⟨⟨⟨⟨⟨x1,x2⟩,x3⟩,x4⟩,x5⟩,x6⟩,x7⟩,x8⟩:=hk1;exact⟨⟨⟨⟨⟨⟨⟨x1,x2⟩,by show(0:Int)<=1;omega⟩,by show 1<=ea k.kind;omega⟩,x5⟩,x6⟩,x7⟩,x8⟩
  have hn:bu (dc k 1)=bu k:=by unfold bu;rw[hk,hk'];rfl
  have hw:fX (dc k 1)=fX k:=by unfold fX;rw[hn];rfl
  have hc:∀o,cy (dc k 1) o=cy k o:=fun o=>by unfold cy;rw[hn,hw,hk,hk'];rfl
  have hd:bq (dc k 1)=bq k:=by unfold bq;rw[hk,hk'];rfl
  unfold bm at h⊢;rw[hd,hc];exact h
theorem Ij{L:List Obj}:∀(n:Nat) (w:Wk),0<=w.adr->(jg L n w).kd=0->(bm L (jg L n w).pos=true/\(jg L n w).pos.kind=3)/\0<=(jg L n w).adr/\(jg L n w).adr<64
 |0,w,_,h=>absurd h (by show¬(3:Int)=0;omega)
 |n+1,w,ha,h=>by
  unfold jg Qi at h⊢;split at h
  ·rename_i h3;split at h
   ·rename_i hlt;rw[ar h3,ar hlt];obtain⟨pe,pi⟩:=Hn (.inr h3);rw[pe]at h3⊢;exact⟨SR pi h3,ha,hlt⟩
   ·exact absurd h (by show¬(2:Int)=0;omega)
  ·rename_i h3;rw[aq h3];split at h
   ·rename_i h2;rw[ar h2];split at h
    ·rename_i r hr;unfold lJ at hr;split at hr
     ·simp only[ae,and_true]at hr;subst hr;exact absurd h (by show¬(3:Int)=0;omega)
     ·split at hr
      ·split at hr<;>simp only[ae,and_true,reduceCtorEq,and_false]at hr
       subst hr;exact absurd h (by show¬(2:Int)=0;omega)
      ·simp only[ae,and_true]at hr;subst hr;exact absurd h (by show¬(4:Int)=0;omega)
    ·rename_i r w' hr;refine Ij n w' ?_ h;unfold lJ at hr;split at hr
     ·simp at hr
     ·split at hr
      ·rename_i hf;split at hr<;>simp only[ae,aa,reduceCtorEq,and_false]at hr
       obtain⟨_,rfl⟩:=hr;have hf':=Cu.1 hf;have he:=xe (show(eU L (dc (aI L w.pos) 0) 15).value<=9 by omega)
       exact(vu ha he.1).2.2.1
      ·simp at hr
   ·exact absurd h (by show¬(1:Int)=0;omega)
theorem Vs{L:List Obj}{k:Key}{a:Int}(hE:eY L k a=0)(h:(aT L k a).kd=0):(bm L (aT L k a).pos=true/\(aT L k a).pos.kind=3)/\0<=(aT L k a).adr/\(aT L k a).adr<64:=by
 have ha:0<=a:=by
  unfold eY at hE;split at hE
  ·omega
  ·split at hE
   ·split at hE<;>omega
   ·omega
 unfold aT at h⊢;rw[ar hE]at h⊢;exact Ij 9 _ ha h
theorem yT{L:List Obj}{k:Key}{a n:Int}{w:Bool}:(!decide (dz L k a n=0)|| !decide (dn L k a n w=0))= !vP L k a n w:=by
 unfold vP;cases decide (dz L k a n=0)<;>cases decide (dn L k a n w=0)<;>rfl
theorem zi{L:List Obj}{k:Key}{a n:Int}{w:Bool}(h:vP L k a n w=true):dz L k a n=0/\dn L k a n w=0:=by
 unfold vP at h;simpa using h
theorem TW{L:List Obj}{k:Key}{a n e:Int}(h:eY L k a=e)(he:e≠0):dz L k a n=e:=by unfold dz;rw[h,aq he]
theorem aaI{L:List Obj}{k:Key}{a n:Int}(h:eY L k a=0)(hr:(decide (n<0)||decide (64<n))=true):dz L k a n=4:=by
 unfold dz;rw[ar h,ar (by simpa using hr)]
theorem aaG{L:List Obj}{k:Key}{a n:Int}(h:eY L k a=0)(hr:(decide (n<0)||decide (64<n))=false):dz L k a n=0:=by
 unfold dz;rw[ar h,aq (by simpa using hr)]
theorem Ff{L:List Obj}{k:Key}{a n:Int}(h:dz L k a n=0):eY L k a=0/\0<=n/\n<=64:=by
 unfold dz at h;split at h
 ·rename_i hw;split at h
  ·omega
  ·exact⟨hw,by omega,by omega⟩
 ·rename_i hw;exact absurd h hw
theorem uX{L:List Obj}{k:Key}{a n e:Int}{w:Bool}(h:dz L k a n=e)(he:e≠0):void=dW (cV L k a n w)/\0=dO (cV L k a n w)/\void=eo (cV L k a n w)/\0=eR (cV L k a n w)/\0=dn L k a n w/\void=iq L k a n w/\0=ij L k a n w/\e=dz L k a n:=by
 have hF:dn L k a n w=0:=by unfold dn;rw[h,aq he]
 have hC:vP L k a n w=false:=by unfold vP;rw[h,decide_eq_false he];rfl
 unfold cV iq ij;rw[hC,hF,h];exact⟨rfl,rfl,rfl,rfl,rfl,rfl,rfl,rfl⟩
theorem BV{L:List Obj}{k:Key}{a n d:Int}{w:Bool}(hE:dz L k a n=0)(h:dn L k a n w=d)(hd:d≠0):void=dW (cV L k a n w)/\0=dO (cV L k a n w)/\void=eo (cV L k a n w)/\0=eR (cV L k a n w)/\d=dn L k a n w/\(aT L k a).kpr=iq L k a n w/\a=ij L k a n w/\0=dz L k a n:=by
 have hC:vP L k a n w=false:=by unfold vP;rw[h,decide_eq_false hd,Bool.and_false]
 unfold cV iq ij;rw[hC,h,hE,aq hd,aq hd];exact⟨rfl,rfl,rfl,rfl,rfl,rfl,rfl,rfl⟩
theorem QA{L:List Obj}{k:Key}{a n:Int}{w:Bool}(hE:dz L k a n=0)(h:dn L k a n w=0):dW (aT L k a)=dW (cV L k a n w)/\dO (aT L k a)=dO (cV L k a n w)/\eo (aT L k a)=eo (cV L k a n w)/\eR (aT L k a)=eR (cV L k a n w)/\0=dn L k a n w/\void=iq L k a n w/\0=ij L k a n w/\0=dz L k a n:=by
 have hC:vP L k a n w=true:=by unfold vP;rw[h,hE];rfl
 unfold cV iq ij;rw[hC,h,hE];exact⟨rfl,rfl,rfl,rfl,rfl,rfl,rfl,rfl⟩
theorem Z1{r:Wr}(h:r.kd=0):dW r=r.pos/\dO r=r.adr/\eo r=r.kpr:=by
 unfold dW dO eo;rw[ar h,ar h,ar h];exact⟨rfl,rfl,rfl⟩
theorem aao{r:Wr}{a:Int}(h:r.kd≠0):gi r=r.kd/\gN r=r.kpr/\gQ r a=a:=by
 unfold gN gQ;rw[aq h,aq h];exact⟨rfl,rfl,rfl⟩
theorem aai{L:List Obj}{k:Key}{a n:Int}{w:Bool}(hE:dz L k a n=0)(h:(aT L k a).kd≠0):dn L k a n w=(aT L k a).kd:=by unfold dn;rw[ar hE,aq h]
theorem aaB{L:List Obj}{k:Key}{a n:Int}{w:Bool}(hE:dz L k a n=0)(h:(aT L k a).kd=0)(h5:64<(aT L k a).adr+n):dn L k a n w=5:=by unfold dn;rw[ar hE,ar h,ar h5]
theorem aav{L:List Obj}{k:Key}{a n:Int}{w:Bool}(hE:dz L k a n=0)(h:(aT L k a).kd=0)(h5:¬64<(aT L k a).adr+n)(h6:(w&& !decide ((aT L k a).pos.rights=0))=true):dn L k a n w=6:=by unfold dn;rw[ar hE,ar h,aq h5,ar h6]
theorem aaA{L:List Obj}{k:Key}{a n:Int}{w:Bool}(hE:dz L k a n=0)(h:(aT L k a).kd=0)(h5:¬64<(aT L k a).adr+n)(h6:(w&& !decide ((aT L k a).pos.rights=0))=false):dn L k a n w=0:=by unfold dn;rw[ar hE,ar h,aq h5,aq (by rw[h6];simp)]
theorem GF{L:List Obj}{k:Key}{i:Int}{s:ByteArray}(hL:aP L):aP (fY L k i s):=by
 unfold fY;split
 ·rename_i h;unfold dS at h;split at h
  ·rename_i hp;obtain⟨a1,a2,_⟩:=xu hp;exact(qk hL a1 a2).2.2
  ·rename_i hp;exact absurd h hp
 ·exact hL
theorem Vt{L:List Obj}{k:Key}{a:Int}{s:ByteArray}(hL:aP L):aP (oT L k a s):=by
 unfold oT;split
 ·exact GF hL
 ·exact hL
structure Acs where
 kind:Int
 num:Int
 root:Key
 adr:Int
 bytes:ByteArray
structure Lnk where
 hgt:Int
 slot:Int
 rts:Int
 kept:Bool
end Go.Sx
namespace Go.Proofs.YtmfbohanboiklaaGreat
open Go.Sx
theorem Tj(h:Int)(hh:ck .i64 h)(hq:pA h):
 az (h-1)/\(∃g,Cy h g/\h=h/\64=bW (g+1)/\h-1=h-1/\0=g)/\∀(g:Int),Cy h g->au (decide (g<h-1)) (az (bW (g+1)*16)/\az (g+1)/\∃g',Cy h g'/\(h-g').toNat<(h-g).toNat/\h=h/\bW (g+1)*16=bW (g'+1)/\h-1=h-1/\g+1=g') (bW (g+1)=bW h):=by
 delta au az
 obtain⟨q0,q9⟩:=hq;refine⟨by simp only[bg,ck]at *;omega,⟨0,⟨by omega,.inl rfl⟩,rfl,(tv (by omega)).symm,rfl,rfl⟩,fun g hg=>⟨fun hlt=>?_,fun hge=>?_⟩⟩
 ·obtain⟨g0,g1⟩:=hg;have hlt:=ak hlt;have hb:=xe (show g+1<=9 by omega)
  exact⟨by simp only[bg,ck];omega,by simp only[bg,ck];omega,g+1,⟨by omega,.inr (by omega)⟩,by omega,rfl,Kg (by omega),rfl,rfl⟩
 ·obtain⟨g0,g1⟩:=hg;have hge:=aj hge;rcases g1 with rfl|g1
  ·rw[tv (by omega),tv (by omega)]
  ·rw[show g+1=h by omega]
theorem HU[Fen]:dq Tryz.prog 237 U6:=
 kf (aZ fk dg) (fun _=>rfl) fun a hq hok=>by
  obtain⟨h,_⟩:=a;exact bG (inl:=cg) (ann:=(kb [(237,3,X2 [0,2,5] (fun g=> [(3,.it .i64 (bW (Ea g 1))),(6,.it .i64 g)]) (Cy h) h)])) aO (Tj h hok.1 hq) (by kernel_rfl)
theorem PT:
 ∀(nid:Nat),some (V.mp nid)=some (V.mp nid)/\some [aQ.mp IntKind.i64 [3,2] [V.fn 234 [],V.fn 235 []]]=some [aQ.mp IntKind.i64 [3,2] [V.fn 234 [],V.fn 235 []]]:=by
 exact fun nid=>⟨rfl,rfl⟩
theorem EK[Fen]:dq Tryz.prog 232 (zR spX spN):=uy (π:= [0]) (by decide) (fun _=>rfl) (bV (inl:=cg) (ann:=bj) aO aU PT (by kernel_rfl))
abbrev abm(g:Wk)(k:Key)(a:Int):=aI [] g.pos=dW (aT [] k a)/\g.adr=dO (aT [] k a)/\g.kpr=eo (aT [] k a)/\g.dep=eR (aT [] k a)/\0=gi (aT [] k a)/\void=gN (aT [] k a)/\0=gQ (aT [] k a) a/\0=eY [] k a
abbrev abn(g:Wk):=bd [] (aB 2 (aI [] g.pos) void.value) 15
abbrev abo(k:Key)(a:Int)(g:Wk):=au (!decide (2=0)) (void=dW (aT [] k a)/\0=dO (aT [] k a)/\void=eo (aT [] k a)/\0=eR (aT [] k a)/\2=gi (aT [] k a)/\g.kpr=gN (aT [] k a)/\a=gQ (aT [] k a) a/\0=eY [] k a) (abm g k a)
abbrev abp(g:Wk):=bW (abn g).value
abbrev abq(g:Wk):=aB 2 (aI [] g.pos) void.value
theorem Na(k:Key)(a:Int)(ha:ck .i64 a):
 aw (au (decide (aK []=0)) (void=dW (aT [] k a)/\0=dO (aT [] k a)/\void=eo (aT [] k a)/\0=eR (aT [] k a)/\0=gi (aT [] k a)/\void=gN (aT [] k a)/\0=gQ (aT [] k a) a/\1=eY [] k a) (au (!decide (bF k=0)||bq k&&decide (aK []<=cw k)) (void=dW (aT [] k a)/\0=dO (aT [] k a)/\void=eo (aT [] k a)/\0=eR (aT [] k a)/\0=gi (aT [] k a)/\void=gN (aT [] k a)/\0=gQ (aT [] k a) a/\2=eY [] k a) (au (decide (a<0)) (void=dW (aT [] k a)/\0=dO (aT [] k a)/\void=eo (aT [] k a)/\0=eR (aT [] k a)/\0=gi (aT [] k a)/\void=gN (aT [] k a)/\0=gQ (aT [] k a) a/\4=eY [] k a) (aw ((∃g,su [] k a 0 g/\k=k/\void=void/\void=void/\void=void/\k=k/\Value.pointer none=Value.pointer none/\k=g.pos/\a=g.adr/\0=g.rts/\void=g.kpr/\0=g.dep/\0=g.hi/\false=false)/\∀(g:Wk),su [] k a 0 g->aw (au (!(decide ((aI [] g.pos).kind=3)||decide ((aI [] g.pos).kind=2))) (au (!decide (1=0)) (void=dW (aT [] k a)/\0=dO (aT [] k a)/\void=eo (aT [] k a)/\0=eR (aT [] k a)/\1=gi (aT [] k a)/\g.kpr=gN (aT [] k a)/\a=gQ (aT [] k a) a/\0=eY [] k a) (abm g k a)) (au (decide ((aI [] g.pos).kind=3)) (aw (aw (au (!decide (g.adr<64)) (abo k a g) (au (!decide (bw BinOp.and IntKind.i64 g.rts 3=0)) (Key.mk (aI [] g.pos).kind (aI [] g.pos).oid (aI [] g.pos).count (aI [] g.pos).call (bw BinOp.or IntKind.i64 (aI [] g.pos).rights 1) (aI [] g.pos).value=dW (aT [] k a)/\g.adr=dO (aT [] k a)/\g.kpr=eo (aT [] k a)/\g.dep=eR (aT [] k a)/\0=gi (aT [] k a)/\void=gN (aT [] k a)/\0=gQ (aT [] k a) a/\0=eY [] k a) (abm g k a))))) (au (decide ((aI [] g.pos).kind=2)) (aw (aw (au (!decide (g.dep<8)) (au (!decide (3=0)) (void=dW (aT [] k a)/\0=dO (aT [] k a)/\void=eo (aT [] k a)/\0=eR (aT [] k a)/\3=gi (aT [] k a)/\g.kpr=gN (aT [] k a)/\a=gQ (aT [] k a) a/\0=eY [] k a) (abm g k a)) (aw (aw (au (!(decide ((abn g).kind=1)&&decide (1<=(abn g).value)&&decide ((abn g).value<=8)&&(decide (g.dep=0)||decide ((abn g).value<g.hi)))) (au (!decide (4=0)) (void=dW (aT [] k a)/\0=dO (aT [] k a)/\void=eo (aT [] k a)/\0=eR (aT [] k a)/\4=gi (aT [] k a)/\g.kpr=gN (aT [] k a)/\a=gQ (aT [] k a) a/\0=eY [] k a) (abm g k a)) (aw (au (decide ((bd [] (abq g) 14).kind=6)&&decide (bw BinOp.and IntKind.i64 (bw BinOp.or IntKind.i64 g.rts (aI [] g.pos).rights) 4=0)) (pA (abn g).value/\(Gg (abp g)/\az (g.adr.tdiv (abp g)))/\aw (au (!decide (g.adr.tdiv (abp g)<14)) (au (!decide (2=0)) (void=dW (aT [] k a)/\0=dO (aT [] k a)/\void=eo (aT [] k a)/\0=eR (aT [] k a)/\2=gi (aT [] k a)/\bd [] (abq g) 14=gN (aT [] k a)/\a=gQ (aT [] k a) a/\0=eY [] k a) (aI [] g.pos=dW (aT [] k a)/\g.adr=dO (aT [] k a)/\bd [] (abq g) 14=eo (aT [] k a)/\g.dep=eR (aT [] k a)/\0=gi (aT [] k a)/\void=gN (aT [] k a)/\0=gQ (aT [] k a) a/\0=eY [] k a)) (az (g.dep+1)/\(Gg (abp g)/\az (g.adr.tmod (abp g)))/\∃g',su [] k a 0 g'/\u6 g'<u6 g/\k=k/\void=void/\void=void/\void=void/\k=k/\Value.pointer none=Value.pointer none/\bd [] (aI [] g.pos) (g.adr.tdiv (abp g))=g'.pos/\g.adr.tmod (abp g)=g'.adr/\bw BinOp.or IntKind.i64 g.rts (aI [] g.pos).rights=g'.rts/\bd [] (abq g) 14=g'.kpr/\g.dep+1=g'.dep/\(abn g).value=g'.hi/\false=false))) (pA (abn g).value/\(Gg (abp g)/\az (g.adr.tdiv (abp g)))/\aw (au (!decide (g.adr.tdiv (abp g)<14)) (abo k a g) (az (g.dep+1)/\(Gg (abp g)/\az (g.adr.tmod (abp g)))/\∃g',su [] k a 0 g'/\u6 g'<u6 g/\k=k/\void=void/\void=void/\void=void/\k=k/\Value.pointer none=Value.pointer none/\bd [] (aI [] g.pos) (g.adr.tdiv (abp g))=g'.pos/\g.adr.tmod (abp g)=g'.adr/\bw BinOp.or IntKind.i64 g.rts (aI [] g.pos).rights=g'.rts/\g.kpr=g'.kpr/\g.dep+1=g'.dep/\(abn g).value=g'.hi/\false=false))))))))))) False)))))))):=by
 delta au aB abq abp abo abn abm az aw
 refine⟨rfl,fun h=>Ih (wE1 h) (by omega),fun h=>absurd h (by decide)⟩
theorem NN[Fen](k:Key)(a:Int)(ha:ck .i64 a):aL Tryz.prog 228 [jZ,.key k,.it .i64 a] [] (qh (P8 [] k a)) (fun _ _=>False):=
 bk (inl:=(abE [227,230,233,234,235,236])) (ann:=(kb [(230,2,lpP [0,2] (fun _=> []) 0 (fun g=> .blk tW (wkV (jZ) g)) (su [] k a 0) u6)])) (aH EK (aH bE (aH fW (aH dB (aH fV (aH HU (aH rR aO))))))) aU (dT HS) (Na k a ha) (by kernel_rfl)
abbrev abr(L:List Sx.Obj)(g:Wk)(k:Key)(a:Int):=aI L g.pos=dW (aT L k a)/\g.adr=dO (aT L k a)/\g.kpr=eo (aT L k a)/\g.dep=eR (aT L k a)/\0=gi (aT L k a)/\void=gN (aT L k a)/\0=gQ (aT L k a) a/\0=eY L k a
abbrev abt(L:List Sx.Obj)(g:Wk):=bd L (aB 2 (aI L g.pos) void.value) 15
abbrev abu(L:List Sx.Obj)(k:Key)(a:Int)(g:Wk):=au (!decide (2=0)) (void=dW (aT L k a)/\0=dO (aT L k a)/\void=eo (aT L k a)/\0=eR (aT L k a)/\2=gi (aT L k a)/\g.kpr=gN (aT L k a)/\a=gQ (aT L k a) a/\0=eY L k a) (abr L g k a)
abbrev abv(L:List Sx.Obj)(g:Wk):=bW (abt L g).value
theorem T2(L:List Sx.Obj)(k:Key)(a:Int)(ha:ck .i64 a):
 aw (au (decide (aK L=0)) (void=dW (aT L k a)/\0=dO (aT L k a)/\void=eo (aT L k a)/\0=eR (aT L k a)/\0=gi (aT L k a)/\void=gN (aT L k a)/\0=gQ (aT L k a) a/\1=eY L k a) (au (!decide (bF k=0)||bq k&&decide (aK L<=cw k)) (void=dW (aT L k a)/\0=dO (aT L k a)/\void=eo (aT L k a)/\0=eR (aT L k a)/\0=gi (aT L k a)/\void=gN (aT L k a)/\0=gQ (aT L k a) a/\2=eY L k a) (au (decide (a<0)) (void=dW (aT L k a)/\0=dO (aT L k a)/\void=eo (aT L k a)/\0=eR (aT L k a)/\0=gi (aT L k a)/\void=gN (aT L k a)/\0=gQ (aT L k a) a/\4=eY L k a) (aw ((∃g,su L k a 0 g/\L=L/\k=k/\void=void/\void=void/\void=void/\k=k/\k=g.pos/\a=g.adr/\0=g.rts/\void=g.kpr/\0=g.dep/\0=g.hi/\false=false)/\∀(g:Wk),su L k a 0 g->aw (au (!(decide ((aI L g.pos).kind=3)||decide ((aI L g.pos).kind=2))) (au (!decide (1=0)) (void=dW (aT L k a)/\0=dO (aT L k a)/\void=eo (aT L k a)/\0=eR (aT L k a)/\1=gi (aT L k a)/\g.kpr=gN (aT L k a)/\a=gQ (aT L k a) a/\0=eY L k a) (abr L g k a)) (au (decide ((aI L g.pos).kind=3)) (aw (aw (au (!decide (g.adr<64)) (abu L k a g) (au (!decide (bw BinOp.and IntKind.i64 g.rts 3=0)) (Key.mk (aI L g.pos).kind (aI L g.pos).oid (aI L g.pos).count (aI L g.pos).call (bw BinOp.or IntKind.i64 (aI L g.pos).rights 1) (aI L g.pos).value=dW (aT L k a)/\g.adr=dO (aT L k a)/\g.kpr=eo (aT L k a)/\g.dep=eR (aT L k a)/\0=gi (aT L k a)/\void=gN (aT L k a)/\0=gQ (aT L k a) a/\0=eY L k a) (abr L g k a))))) (au (decide ((aI L g.pos).kind=2)) (aw (aw (au (!decide (g.dep<8)) (au (!decide (3=0)) (void=dW (aT L k a)/\0=dO (aT L k a)/\void=eo (aT L k a)/\0=eR (aT L k a)/\3=gi (aT L k a)/\g.kpr=gN (aT L k a)/\a=gQ (aT L k a) a/\0=eY L k a) (abr L g k a)) (aw (aw (au (!(decide ((abt L g).kind=1)&&decide (1<=(abt L g).value)&&decide ((abt L g).value<=8)&&(decide (g.dep=0)||decide ((abt L g).value<g.hi)))) (au (!decide (4=0)) (void=dW (aT L k a)/\0=dO (aT L k a)/\void=eo (aT L k a)/\0=eR (aT L k a)/\4=gi (aT L k a)/\g.kpr=gN (aT L k a)/\a=gQ (aT L k a) a/\0=eY L k a) (abr L g k a)) (aw (au (decide ((bd L (aB 2 (aI L g.pos) void.value) 14).kind=6)&&decide (bw BinOp.and IntKind.i64 (bw BinOp.or IntKind.i64 g.rts (aI L g.pos).rights) 4=0)) (pA (abt L g).value/\(Gg (abv L g)/\az (g.adr.tdiv (abv L g)))/\aw (au (!decide (g.adr.tdiv (abv L g)<14)) (au (!decide (2=0)) (void=dW (aT L k a)/\0=dO (aT L k a)/\void=eo (aT L k a)/\0=eR (aT L k a)/\2=gi (aT L k a)/\bd L (aB 2 (aI L g.pos) void.value) 14=gN (aT L k a)/\a=gQ (aT L k a) a/\0=eY L k a) (aI L g.pos=dW (aT L k a)/\g.adr=dO (aT L k a)/\bd L (aB 2 (aI L g.pos) void.value) 14=eo (aT L k a)/\g.dep=eR (aT L k a)/\0=gi (aT L k a)/\void=gN (aT L k a)/\0=gQ (aT L k a) a/\0=eY L k a)) (az (g.dep+1)/\(Gg (abv L g)/\az (g.adr.tmod (abv L g)))/\∃g',su L k a 0 g'/\u6 g'<u6 g/\L=L/\k=k/\void=void/\void=void/\void=void/\k=k/\bd L (aI L g.pos) (g.adr.tdiv (abv L g))=g'.pos/\g.adr.tmod (abv L g)=g'.adr/\bw BinOp.or IntKind.i64 g.rts (aI L g.pos).rights=g'.rts/\bd L (aB 2 (aI L g.pos) void.value) 14=g'.kpr/\g.dep+1=g'.dep/\(abt L g).value=g'.hi/\false=false))) (pA (abt L g).value/\(Gg (abv L g)/\az (g.adr.tdiv (abv L g)))/\aw (au (!decide (g.adr.tdiv (abv L g)<14)) (abu L k a g) (az (g.dep+1)/\(Gg (abv L g)/\az (g.adr.tmod (abv L g)))/\∃g',su L k a 0 g'/\u6 g'<u6 g/\L=L/\k=k/\void=void/\void=void/\void=void/\k=k/\bd L (aI L g.pos) (g.adr.tdiv (abv L g))=g'.pos/\g.adr.tmod (abv L g)=g'.adr/\bw BinOp.or IntKind.i64 g.rts (aI L g.pos).rights=g'.rts/\g.kpr=g'.kpr/\g.dep+1=g'.dep/\(abt L g).value=g'.hi/\false=false))))))))))) False)))))))):=by
 delta au aB abv abu abt abr az aw
 refine⟨rfl,fun h=>Ih (wE1 h) (by omega),fun h=>⟨fun h2=>?_,fun h2=>⟨fun h3=>?_,fun h3=>⟨rfl,?_,fun g hI=>⟨rfl,?_⟩⟩⟩⟩⟩
 ·rw[Az,Bool.not_eq_true']at h2;exact Ih (by rw[Ya h,h2];rfl) (by omega)
 ·rw[Az,Bool.not_eq_false']at h2;exact Ih (by rw[Ya h,h2,ar rfl,ar (ak h3)]) (by omega)
 ·refine⟨xG k a 0,aat (aj h3) 0,?_⟩;repeat' apply And.intro
  all_goals rfl
 rw[Az,Bool.not_eq_false']at h2;have hE:eY L k a=0:=by rw[Ya h,h2,ar rfl,aq (aj h3)]
 clear h h2 h3;obtain⟨⟨a1,a2⟩,⟨r1,r2⟩,⟨d1,d2⟩,e1,e2,e3⟩:=id hI;refine⟨fun v=>⟨fun _=>?_,fun h=>absurd h (by decide)⟩,fun v=>⟨fun v3=>⟨rfl,rfl,fun b=>⟨fun _=>?_,fun h=>absurd h (by decide)⟩,fun b=>⟨fun ro=>?_,fun ro=>?_⟩⟩,fun v3=>⟨fun v2=>?_,fun v2=>?_⟩⟩⟩
 ·simp only[Bool.not_eq_true',Bool.or_eq_false_iff,decide_eq_false_iff_not]at v;exact z8 hI hE (S9 d1 d2 v.1 v.2) (by omega)
 ·have v3:=ak v3;exact z8 hI hE (Vz d1 d2 v3 (by simpa using b)) (by omega)
 ·have v3:=ak v3;have hb:g.adr<64:=by simpa using b
  have hp:=gL (lk L g.pos);have hm:ea (aI L g.pos).kind=1:=by rw[v3];rfl
  rw[SZ r1 r2]at ro;have ro:g.rts.tmod 4≠0:=by simpa using ro
  refine Uh hI hE ((HW d1 d2 v3 hb).trans ?_);rw[Ez hp.1 (by omega)]
  unfold qX;rw[aq ro];rfl
 ·have v3:=ak v3;have hb:g.adr<64:=by simpa using b
  rw[SZ r1 r2]at ro;have ro:g.rts.tmod 4=0:=by simpa using ro
  refine Uh hI hE ((HW d1 d2 v3 hb).trans ?_);unfold qX;rw[ar ro]
 ·have v3:=aj v3;have v2:=ak v2;obtain⟨pe,pi⟩:=Hn (.inl v2);have pi':bm L (aI L g.pos)=true:=by rw[pe];exact pi
  have hp:=qi (lk L g.pos);have ho:=Yg r1 r2 hp.1 hp.2;rw[O4 (i:=15) pi' v2 (by omega) (by omega),O4 (i:=14) pi' v2 (by omega) (by omega),ho.1,aaf ho.2.1 ho.2.2]
  refine⟨rfl,rfl,fun b=>⟨fun _=>?_,fun h=>absurd h (by decide)⟩,fun b=>⟨rfl,rfl,fun f=>⟨fun _=>?_,fun h=>absurd h (by decide)⟩,fun f=>⟨rfl,?_⟩⟩⟩
  ·exact z8 hI hE (XB d1 d2 v2 (by simpa using b)) (by omega)
  ·have b:g.dep<8:=by simpa using b
   exact z8 hI hE (QF d1 d2 v2 b (by unfold qC;rw[Bool.not_eq_true']at f;exact f)) (by omega)
  ·have b:g.dep<8:=by simpa using b
   have f:qC g (eU L (dc (aI L g.pos) 0) 15)=true:=by unfold qC;rw[Bool.not_eq_false']at f;exact f
   have hf':=Cu.1 f;have he:=xe (show(eU L (dc (aI L g.pos) 0) 15).value<=9 by omega)
   have hd:=vu a1 he.1;have q1:pA (eU L (dc (aI L g.pos) 0) 15).value:=⟨by omega,by omega⟩
   have q2:Gg (bW (eU L (dc (aI L g.pos) 0) 15).value):=by unfold Gg;omega
   unfold ck at ha;have q3:bg IntKind.i64 (g.adr.tdiv (bW (eU L (dc (aI L g.pos) 0) 15).value)):=by simp only[bg,ck];omega
   have q4:bg IntKind.i64 (g.adr.tmod (bW (eU L (dc (aI L g.pos) 0) 15).value)):=by simp only[bg,ck];omega
   have q5:bg IntKind.i64 (g.dep+1):=by simp only[bg,ck];omega
   have kp:∀b,(decide ((eU L (dc (aI L g.pos) 0) 14).kind=6)&&decide (uq g.rts (aI L g.pos).rights<4))=b->DJ (uq g.rts (aI L g.pos).rights) (eU L (dc (aI L g.pos) 0) 14) g.kpr=if b then eU L (dc (aI L g.pos) 0) 14 else g.kpr:=by
    intro b hb;unfold DJ;cases b
    ·simp only[Bool.and_eq_false_iff,decide_eq_false_iff_not]at hb;rw[aq (by omega)];rfl
    ·simp only[af,ah]at hb;rw[ar hb];rfl
   refine⟨fun c=>⟨q1,⟨q2,q3⟩,rfl,fun s=>⟨fun _=>?_,fun h=>absurd h (by decide)⟩,fun s=>⟨q5,⟨q2,q4⟩,Ql L g,?_⟩⟩,fun c=>⟨q1,⟨q2,q3⟩,rfl,fun s=>⟨fun _=>?_,fun h=>absurd h (by decide)⟩,fun s=>⟨q5,⟨q2,q4⟩,Ql L g,?_⟩⟩⟩
   ·exact z8 hI hE ((GC d1 d2 v2 b f (by simpa using s)).trans (by rw[kp _ c];rfl)) (by omega)
   ·have s:g.adr.tdiv (bW (eU L (dc (aI L g.pos) 0) 15).value)<14:=by simpa using s
    obtain⟨n1,n2⟩:=UA hI v2 b f s;rw[E4 pi' v2 hd.1 (by omega)]
    refine⟨n1,n2,rfl,rfl,rfl,rfl,rfl,rfl,rfl,rfl,rfl,?_,rfl,rfl,rfl⟩;show _=DJ _ _ _
    rw[kp _ c];rfl
   ·exact z8 hI hE ((GC d1 d2 v2 b f (by simpa using s)).trans (by rw[kp _ c];rfl)) (by omega)
   ·have s:g.adr.tdiv (bW (eU L (dc (aI L g.pos) 0) 15).value)<14:=by simpa using s
    obtain⟨n1,n2⟩:=UA hI v2 b f s;rw[E4 pi' v2 hd.1 (by omega)]
    refine⟨n1,n2,rfl,rfl,rfl,rfl,rfl,rfl,rfl,rfl,rfl,?_,rfl,rfl,rfl⟩;show _=DJ _ _ _
    rw[kp _ c];rfl
 ·simp only[Bool.not_eq_false',Bool.or_eq_true,ah]at v;have v3:=aj v3;have v2:=aj v2;omega
theorem R7[Fen](L:List Sx.Obj)(k:Key)(a:Int)(ha:ck .i64 a):aL Tryz.prog 228 [.lp 0 0,.key k,.it .i64 a] [.ro (.store tS eS L)] (qh (P8 L k a)) (fun _ _=>False):=
 bk (inl:=(abE [227,230,233,234,235,236])) (ann:=(kb [(230,2,lpP [0,2] (fun _=> []) 0 (fun g=> .blk tW (wkV (.lp 0 0) g)) (su L k a 0) u6)])) (aH EK (aH bE (aH fW (aH dB (aH fV (aH HU (aH rR aO))))))) aU (dT HS) (T2 L k a ha) (by kernel_rfl)
theorem G7[Fen]:dq Tryz.prog 228 U2:=
 kf (aZ sH (aZ mT (aZ fk dg))) (fun _=>rfl) fun a hq hok=>by
  obtain⟨S,k,i,_⟩:=a;cases S with
  |none=>exact NN k i hok.2.2.1
  |some L=>exact R7 L k i hok.2.2.1
abbrev abw(k:Key)(a:Int)(n:Int)(w:Bool):=void=dW (cV [] k a n w)/\0=dO (cV [] k a n w)/\void=eo (cV [] k a n w)/\0=eR (cV [] k a n w)/\0=dn [] k a n w/\void=iq [] k a n w/\0=ij [] k a n w/\4=dz [] k a n
theorem Rh(k:Key)(a:Int)(n:Int)(w:Bool):
 aw (au (decide (aK []=0)) (void=dW (cV [] k a n w)/\0=dO (cV [] k a n w)/\void=eo (cV [] k a n w)/\0=eR (cV [] k a n w)/\0=dn [] k a n w/\void=iq [] k a n w/\0=ij [] k a n w/\1=dz [] k a n) (au (!decide (bF k=0)||bq k&&decide (aK []<=cw k)) (void=dW (cV [] k a n w)/\0=dO (cV [] k a n w)/\void=eo (cV [] k a n w)/\0=eR (cV [] k a n w)/\0=dn [] k a n w/\void=iq [] k a n w/\0=ij [] k a n w/\2=dz [] k a n) (au (decide (a<0)) (abw k a n w) (au (decide (n<0)||decide (64<n)) (abw k a n w) (au (!decide (gi (aT [] k a)=0)) (void=dW (cV [] k a n w)/\0=dO (cV [] k a n w)/\void=eo (cV [] k a n w)/\0=eR (cV [] k a n w)/\gi (aT [] k a)=dn [] k a n w/\gN (aT [] k a)=iq [] k a n w/\gQ (aT [] k a) a=ij [] k a n w/\0=dz [] k a n) (bg IntKind.i64 (dO (aT [] k a)+n)/\au (decide (64<dO (aT [] k a)+n)) (aw (void=dW (cV [] k a n w)/\0=dO (cV [] k a n w)/\void=eo (cV [] k a n w)/\0=eR (cV [] k a n w)/\5=dn [] k a n w/\eo (aT [] k a)=iq [] k a n w/\a=ij [] k a n w/\0=dz [] k a n)) (au (w&& !decide (bw BinOp.and IntKind.i64 (dW (aT [] k a)).rights 1=0)) (aw (void=dW (cV [] k a n w)/\0=dO (cV [] k a n w)/\void=eo (cV [] k a n w)/\0=eR (cV [] k a n w)/\6=dn [] k a n w/\eo (aT [] k a)=iq [] k a n w/\a=ij [] k a n w/\0=dz [] k a n)) (dW (aT [] k a)=dW (cV [] k a n w)/\dO (aT [] k a)=dO (cV [] k a n w)/\eo (aT [] k a)=eo (cV [] k a n w)/\eR (aT [] k a)=eR (cV [] k a n w)/\0=dn [] k a n w/\void=iq [] k a n w/\0=ij [] k a n w/\0=dz [] k a n)))))))):=by
 delta au abw aw
 exact⟨rfl,fun h=>uX (TW (wE1 h) (by omega)) (by omega),fun h=>absurd h (by decide)⟩
abbrev abx(L:List Sx.Obj)(k:Key)(a:Int)(n:Int)(w:Bool):=void=dW (cV L k a n w)/\0=dO (cV L k a n w)/\void=eo (cV L k a n w)/\0=eR (cV L k a n w)/\0=dn L k a n w/\void=iq L k a n w/\0=ij L k a n w/\4=dz L k a n
theorem Xj(L:List Sx.Obj)(k:Key)(a:Int)(n:Int)(w:Bool):
 aw (au (decide (aK L=0)) (void=dW (cV L k a n w)/\0=dO (cV L k a n w)/\void=eo (cV L k a n w)/\0=eR (cV L k a n w)/\0=dn L k a n w/\void=iq L k a n w/\0=ij L k a n w/\1=dz L k a n) (au (!decide (bF k=0)||bq k&&decide (aK L<=cw k)) (void=dW (cV L k a n w)/\0=dO (cV L k a n w)/\void=eo (cV L k a n w)/\0=eR (cV L k a n w)/\0=dn L k a n w/\void=iq L k a n w/\0=ij L k a n w/\2=dz L k a n) (au (decide (a<0)) (abx L k a n w) (au (decide (n<0)||decide (64<n)) (abx L k a n w) (au (!decide (gi (aT L k a)=0)) (void=dW (cV L k a n w)/\0=dO (cV L k a n w)/\void=eo (cV L k a n w)/\0=eR (cV L k a n w)/\gi (aT L k a)=dn L k a n w/\gN (aT L k a)=iq L k a n w/\gQ (aT L k a) a=ij L k a n w/\0=dz L k a n) (bg IntKind.i64 (dO (aT L k a)+n)/\au (decide (64<dO (aT L k a)+n)) (aw (void=dW (cV L k a n w)/\0=dO (cV L k a n w)/\void=eo (cV L k a n w)/\0=eR (cV L k a n w)/\5=dn L k a n w/\eo (aT L k a)=iq L k a n w/\a=ij L k a n w/\0=dz L k a n)) (au (w&& !decide (bw BinOp.and IntKind.i64 (dW (aT L k a)).rights 1=0)) (aw (void=dW (cV L k a n w)/\0=dO (cV L k a n w)/\void=eo (cV L k a n w)/\0=eR (cV L k a n w)/\6=dn L k a n w/\eo (aT L k a)=iq L k a n w/\a=ij L k a n w/\0=dz L k a n)) (dW (aT L k a)=dW (cV L k a n w)/\dO (aT L k a)=dO (cV L k a n w)/\eo (aT L k a)=eo (cV L k a n w)/\eR (aT L k a)=eR (cV L k a n w)/\0=dn L k a n w/\void=iq L k a n w/\0=ij L k a n w/\0=dz L k a n)))))))):=by
 delta au abx aw
 refine⟨rfl,fun h=>uX (TW (wE1 h) (by omega)) (by omega),fun h=>⟨fun h2=>?_,fun h2=>⟨fun h3=>?_,fun h3=>?_⟩⟩⟩
 ·rw[Az,Bool.not_eq_true']at h2;exact uX (TW (by rw[Ya h,h2];rfl) (by omega)) (by omega)
 ·rw[Az,Bool.not_eq_false']at h2;exact uX (TW (by rw[Ya h,h2,ar rfl,ar (ak h3)]) (by omega)) (by omega)
 rw[Az,Bool.not_eq_false']at h2;have hW:eY L k a=0:=by rw[Ya h,h2,ar rfl,aq (aj h3)]
 clear h h2 h3;refine⟨fun h=>uX (aaI hW h) (by omega),fun h=>?_⟩
 have hE:=aaG hW h;refine⟨fun hk=>?_,fun hk=>?_⟩
 ·have hk:gi (aT L k a)≠0:=by simpa using hk
  have hk:(aT L k a).kd≠0:=hk;obtain⟨u1,u2,u3⟩:=aao (a:=a) hk;rw[u1,u2,u3];exact BV hE (aai hE hk) hk
 have hk:gi (aT L k a)=0:=by simpa using hk
 have hk:(aT L k a).kd=0:=hk;obtain⟨⟨e1,e2⟩,e3,e4⟩:=Vs hW hk;obtain⟨f1,f2,f3⟩:=Z1 hk;have hr:=B0 e1 e2;obtain⟨_,n0,n1⟩:=Ff hE;rw[f1,f2,f3];rw[Vq hr.1 hr.2];refine⟨by simp only[bg,ck];omega,fun h5=>?_,fun h5=>⟨fun h6=>?_,fun h6=>?_⟩⟩
 ·exact⟨rfl,BV hE (aaB hE hk (ak h5)) (by omega)⟩
 ·exact⟨rfl,BV hE (aav hE hk (aj h5) h6) (by omega)⟩
 ·have:=QA hE (aaA hE hk (aj h5) h6);rw[f1,f2,f3]at this;exact this
theorem yJ[Fen]:dq Tryz.prog 225 ZE:=
 kf (aZ sH (aZ mT (aZ fk (aZ fk (aZ PF dg))))) (fun _=>rfl) fun a hq hok=>by
  obtain⟨S,k,i,n,w,_⟩:=a;cases S with
  |none=>exact bG (inl:=(abE [227,229])) (ann:=bj) (aH bE (aH fW (aH dB (aH G7 aO)))) (Rh k i n w) (by kernel_rfl)
  |some L=>exact bG (inl:=(abE [227,229])) (ann:=bj) (aH bE (aH fW (aH dB (aH G7 aO)))) (Xj L k i n w) (by kernel_rfl)
theorem VC(k:Key)(a:Int)(n:Int):
 au (!decide (dz [] k a n=0)|| !decide (dn [] k a n false=0)) (ByteArray.mk (Array.mk [])=nE [] k a n/\dn [] k a n false=dn [] k a n false/\iq [] k a n false=iq [] k a n false/\ij [] k a n false=ij [] k a n false/\dz [] k a n=dz [] k a n) (eP [] (dW (cV [] k a n false)) (dO (cV [] k a n false)) n=nE [] k a n/\0=dn [] k a n false/\void=iq [] k a n false/\0=ij [] k a n false/\0=dz [] k a n):=by
 delta au
 rw[yT];refine⟨fun h=>⟨?_,rfl,rfl,rfl,rfl⟩,fun h=>?_⟩
 ·rw[Bool.not_eq_true']at h;unfold nE;rw[aq (by rw[h];simp)]
 ·rw[Bool.not_eq_false']at h;have h0:=zi h;unfold nE iq ij;rw[ar h,h0.1,h0.2];exact⟨rfl,rfl,rfl,rfl,rfl⟩
theorem ZQ(L:List Sx.Obj)(k:Key)(a:Int)(n:Int):
 au (!decide (dz L k a n=0)|| !decide (dn L k a n false=0)) (ByteArray.mk (Array.mk [])=nE L k a n/\dn L k a n false=dn L k a n false/\iq L k a n false=iq L k a n false/\ij L k a n false=ij L k a n false/\dz L k a n=dz L k a n) (eP L (dW (cV L k a n false)) (dO (cV L k a n false)) n=nE L k a n/\0=dn L k a n false/\void=iq L k a n false/\0=ij L k a n false/\0=dz L k a n):=by
 delta au
 rw[yT];refine⟨fun h=>⟨?_,rfl,rfl,rfl,rfl⟩,fun h=>?_⟩
 ·rw[Bool.not_eq_true']at h;unfold nE;rw[aq (by rw[h];simp)]
 ·rw[Bool.not_eq_false']at h;have h0:=zi h;unfold nE iq ij;rw[ar h,h0.1,h0.2];exact⟨rfl,rfl,rfl,rfl,rfl⟩
theorem YN[Fen]:dq Tryz.prog 218 aag:=
 kf (aZ sH (aZ mT (aZ fk (aZ fk dg)))) (fun _=>rfl) fun a hq hok=>by
  obtain⟨S,k,i,n,_⟩:=a;cases S with
  |none=>exact bG (inl:=cg) (ann:=bj) (aH yJ (aH oL (aH bE aO))) (VC k i n) (by kernel_rfl)
  |some L=>exact bG (inl:=cg) (ann:=bj) (aH yJ (aH oL (aH bE aO))) (ZQ L k i n) (by kernel_rfl)
theorem T0(k:Key)(a:Int)(s:ByteArray)(hs:aR s):
 bg IntKind.i64 (du s)/\au (!decide (dz [] k a (du s)=0)|| !decide (dn [] k a (du s) true=0)) (dn [] k a (du s) true=dn [] k a (du s) true/\iq [] k a (du s) true=iq [] k a (du s) true/\ij [] k a (du s) true=ij [] k a (du s) true/\dz [] k a (du s)=dz [] k a (du s)) (true=true/\0=dn [] k a (du s) true/\void=iq [] k a (du s) true/\0=ij [] k a (du s) true/\0=dz [] k a (du s)):=by
 delta au
 have hsz:bg IntKind.i64 (du s):=by unfold aR at hs;simp only[bg,ck,du];omega
 rw[yT];refine⟨hsz,fun h=>⟨rfl,rfl,rfl,rfl⟩,fun h=>?_⟩
 rw[Bool.not_eq_false']at h;have:=(Ff (zi h).1).1;have h1:eY [] k a=1:=rfl;omega
theorem R0(k:Key)(a:Int)(s:ByteArray)(hs:aR s):
 bg IntKind.i64 (du s)/\au (!decide (dz [] k a (du s)=0)|| !decide (dn [] k a (du s) true=0)) (dn [] k a (du s) true=dn [] k a (du s) true/\iq [] k a (du s) true=iq [] k a (du s) true/\ij [] k a (du s) true=ij [] k a (du s) true/\dz [] k a (du s)=dz [] k a (du s)) (true=true/\False):=by
 delta au
 have hsz:bg IntKind.i64 (du s):=by unfold aR at hs;simp only[bg,ck,du];omega
 rw[yT];refine⟨hsz,fun h=>⟨rfl,rfl,rfl,rfl⟩,fun h=>?_⟩
 rw[Bool.not_eq_false']at h;have:=(Ff (zi h).1).1;have h1:eY [] k a=1:=rfl;omega
theorem WY(L:List Sx.Obj)(k:Key)(a:Int)(s:ByteArray)(hL:aP L)(hs:aR s):
 bg IntKind.i64 (du s)/\au (!decide (dz L k a (du s)=0)|| !decide (dn L k a (du s) true=0)) ((dn L k a (du s) true=dn L k a (du s) true/\iq L k a (du s) true=iq L k a (du s) true/\ij L k a (du s) true=ij L k a (du s) true/\dz L k a (du s)=dz L k a (du s))/\L=oT L k a s) (true=true/\(aP L/\aR s)/\(0=dn L k a (du s) true/\void=iq L k a (du s) true/\0=ij L k a (du s) true/\0=dz L k a (du s))/\fY L (dW (cV L k a (du s) true)) (dO (cV L k a (du s) true)) s=oT L k a s):=by
 delta au
 have hsz:bg IntKind.i64 (du s):=by unfold aR at hs;simp only[bg,ck,du];omega
 rw[yT];refine⟨hsz,fun h=>⟨⟨rfl,rfl,rfl,rfl⟩,?_⟩,fun h=>?_⟩
 ·rw[Bool.not_eq_true']at h;unfold oT;rw[aq (by rw[h];simp)]
 ·rw[Bool.not_eq_false']at h;have h0:=zi h;refine⟨rfl,⟨hL,hs⟩,?_,?_⟩
  ·unfold iq ij;rw[h0.1,h0.2];exact⟨rfl,rfl,rfl,rfl⟩
  ·unfold oT;rw[ar h]
theorem We[Fen](L:List Sx.Obj)(k:Key)(a:Int)(s:ByteArray)(hL:aP L)(hs:aR s):aL Tryz.prog 220 [.lp 0 0,.key k,.it .i64 a,.st s] [.store tS eS L] (z6 (.tp [afV L k a (du s) true,.it .i64 (dz L k a (du s))]) (oT L k a s)) (fun _ _=>False):=
 bV (inl:=cg) (ann:=bj) (aH yJ (aH oL (aH bE aO))) (aV Ch aU) (WY L k a s hL hs) (by kernel_rfl)
theorem Xk[Fen]:k7 Tryz.prog 220 Zm:=
 BB (m:=fun x=> [.key x.1,.it .i64 x.2.1,.st x.2.2]) CQ (fun _=>rfl) (fun _ _=>rfl) (fun x hs=>bV (inl:=cg) (ann:=bj) (aH yJ (aH oL (aH bE aO))) (aV Ch aU) (T0 x.1 x.2.1 x.2.2 hs) (by kernel_rfl)) (fun x hs=>bV (inl:=cg) (ann:=bj) (aH yJ (aH oL (aH bE aO))) (aV Ch aU) (R0 x.1 x.2.1 x.2.2 hs) (by kernel_rfl)) fun L x hL=>We L x.1 x.2.1 x.2.2 hL.1 hL.2
end Go.Proofs.YtmfbohanboiklaaGreat
