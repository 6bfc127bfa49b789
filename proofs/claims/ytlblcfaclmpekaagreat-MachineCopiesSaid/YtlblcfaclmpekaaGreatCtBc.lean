import Derived.Test.YtlblcfaclmpekaaGreatCB
import Derived.Test.YtlblcfaclmpekaaGreatCQ
set_option linter.unusedSimpArgs false
set_option linter.unusedVariables false
namespace Go.Proofs.YtlblcfaclmpekaaGreat
open Go.Sx
set_option maxRecDepth 100000
theorem Dj (k:Key) (n:Int):
 true=true/\true=true/\((!decide (0<aj []))=true->void=b8 [] k n/\1=bY [] k n)/\((!decide (0<aj []))=false->true=true/\((!(aT [] k&&decide (k.kind=4)))=
  true->void=b8 [] k n/\190=bY [] k n)/\((!(aT [] k&&decide (k.kind=4)))=false->true=true/\((!(decide (((aa [] k).slots.at 0).kind=1)&&decide (((aa [] k).slots.at
  1).kind=1)&&decide (0<=((aa [] k).slots.at 0).value)&&decide (((aa [] k).slots.at 0).value<=((aa [] k).slots.at 1).value)&&decide (((aa [] k).slots.at 1).value<aj [])))
  =true->void=b8 [] k n/\220=bY [] k n)/\((!(decide (((aa [] k).slots.at 0).kind=1)&&decide (((aa [] k).slots.at 1).kind=1)&&decide (0<=((aa [] k).slots.at 0).value)&&
  decide (((aa [] k).slots.at 0).value<=((aa [] k).slots.at 1).value)&&decide (((aa [] k).slots.at 1).value<aj [])))=false->(decide (1<=n)=true->aP IntKind.i64 (((aa []
  k).slots.at 1).value-((aa [] k).slots.at 0).value))/\true=true/\((!(decide (1<=n)&&decide (n<=((aa [] k).slots.at 1).value-((aa [] k).slots.at 0).value)))=true->void=b8
  [] k n/\4=bY [] k n)/\((!(decide (1<=n)&&decide (n<=((aa [] k).slots.at 1).value-((aa [] k).slots.at 0).value)))=false->true=true/\true=true/\true=true/\((!decide (0<
  aj []))=true->void=b8 [] k n/\1=bY [] k n)/\((!decide (0<aj []))=false->true=true/\((!(aT [] k&&decide (k.kind=4)))=true->void=b8 [] k n/\190=bY [] k
  n)/\((!(aT [] k&&decide (k.kind=4)))=false->true=true/\((!(decide (((aa [] k).slots.at 0).kind=1)&&decide (((aa [] k).slots.at 1).kind=1)&&decide (0<=((aa []
  k).slots.at 0).value)&&decide (((aa [] k).slots.at 0).value<=((aa [] k).slots.at 1).value)&&decide (((aa [] k).slots.at 1).value<aj [])))=true->void=b8 [] k n/\220=
  bY [] k n)/\((!(decide (((aa [] k).slots.at 0).kind=1)&&decide (((aa [] k).slots.at 1).kind=1)&&decide (0<=((aa [] k).slots.at 0).value)&&decide (((aa [] k).slots.at
  0).value<=((aa [] k).slots.at 1).value)&&decide (((aa [] k).slots.at 1).value<aj [])))=false->true=true/\true=true/\true=true/\∀(r0:Loop),False))))))):=by
 exact⟨rfl,rfl,fun h=>(nV (rE (D2 h) (by omega)) (by omega)).1,fun h=>absurd h (by decide)⟩
theorem CB (k:Key) (n:Int):
 true=true/\true=true/\((!decide (0<aj []))=true->void=b8 [] k n/\1=bY [] k n)/\((!decide (0<aj []))=false->true=true/\((!(aT [] k&&decide (k.kind=4)))=
  true->void=b8 [] k n/\190=bY [] k n)/\((!(aT [] k&&decide (k.kind=4)))=false->true=true/\((!(decide (((aa [] k).slots.at 0).kind=1)&&decide (((aa [] k).slots.at
  1).kind=1)&&decide (0<=((aa [] k).slots.at 0).value)&&decide (((aa [] k).slots.at 0).value<=((aa [] k).slots.at 1).value)&&decide (((aa [] k).slots.at 1).value<aj [])))
  =true->void=b8 [] k n/\220=bY [] k n)/\((!(decide (((aa [] k).slots.at 0).kind=1)&&decide (((aa [] k).slots.at 1).kind=1)&&decide (0<=((aa [] k).slots.at 0).value)&&
  decide (((aa [] k).slots.at 0).value<=((aa [] k).slots.at 1).value)&&decide (((aa [] k).slots.at 1).value<aj [])))=false->(decide (1<=n)=true->aP IntKind.i64 (((aa []
  k).slots.at 1).value-((aa [] k).slots.at 0).value))/\true=true/\((!(decide (1<=n)&&decide (n<=((aa [] k).slots.at 1).value-((aa [] k).slots.at 0).value)))=true->void=b8
  [] k n/\4=bY [] k n)/\((!(decide (1<=n)&&decide (n<=((aa [] k).slots.at 1).value-((aa [] k).slots.at 0).value)))=false->true=true/\False)))):=by
 exact⟨rfl,rfl,fun h=>(nV (rE (D2 h) (by omega)) (by omega)).1,fun h=>absurd h (by decide)⟩
theorem GD (L:List Sx.Obj) (k:Key) (n:Int) (hL:aw L):
 true=true/\true=true/\((!decide (0<aj L))=true->(void=b8 L k n/\1=bY L k n)/\L=bn L k n)/\((!decide (0<aj L))=false->true=true/\((!(aT L k&&decide
  (k.kind=4)))=true->(void=b8 L k n/\190=bY L k n)/\L=bn L k n)/\((!(aT L k&&decide (k.kind=4)))=false->true=true/\((!(decide (((aa L k).slots.at 0).kind=1)&&
  decide (((aa L k).slots.at 1).kind=1)&&decide (0<=((aa L k).slots.at 0).value)&&decide (((aa L k).slots.at 0).value<=((aa L k).slots.at 1).value)&&decide (((aa L
  k).slots.at 1).value<aj L)))=true->(void=b8 L k n/\220=bY L k n)/\L=bn L k n)/\((!(decide (((aa L k).slots.at 0).kind=1)&&decide (((aa L k).slots.at 1).kind=1)
  &&decide (0<=((aa L k).slots.at 0).value)&&decide (((aa L k).slots.at 0).value<=((aa L k).slots.at 1).value)&&decide (((aa L k).slots.at 1).value<aj L)))=false->(decide
  (1<=n)=true->aP IntKind.i64 (((aa L k).slots.at 1).value-((aa L k).slots.at 0).value))/\true=true/\((!(decide (1<=n)&&decide (n<=((aa L k).slots.at 1).value-((aa L
  k).slots.at 0).value)))=true->(void=b8 L k n/\4=bY L k n)/\L=bn L k n)/\((!(decide (1<=n)&&decide (n<=((aa L k).slots.at 1).value-((aa L k).slots.at 0).value)))=
  false->true=true/\(an L).le 1000/\(aR L=true->true=true/\true=true/\((!decide (0<aj []))=true->(void=b8 L k n/\1=bY L k n)/\L=bn L k n)/\((!decide (0<
  aj []))=false->true=true/\((!(aT [] k&&decide (k.kind=4)))=true->(void=b8 L k n/\190=bY L k n)/\L=bn L k n)/\((!(aT [] k&&decide (k.kind=4)))=false->true=
  true/\((!(decide (((aa [] k).slots.at 0).kind=1)&&decide (((aa [] k).slots.at 1).kind=1)&&decide (0<=((aa [] k).slots.at 0).value)&&decide (((aa [] k).slots.at 0).value<=
  ((aa [] k).slots.at 1).value)&&decide (((aa [] k).slots.at 1).value<aj [])))=true->(void=b8 L k n/\220=bY L k n)/\L=bn L k n)/\((!(decide (((aa [] k).slots.at
  0).kind=1)&&decide (((aa [] k).slots.at 1).kind=1)&&decide (0<=((aa [] k).slots.at 0).value)&&decide (((aa [] k).slots.at 0).value<=((aa [] k).slots.at 1).value)&&decide
  (((aa [] k).slots.at 1).value<aj [])))=false->true=true/\true=true/\true=true/\∀(r0:Loop),(∃g,gY L k g/\False)/\∀(g:Int),gY L k g->(decide (g<=((aa []
  k).slots.at 1).value)=true->r0=r0/\r0=r0/\((!decide ((aD [] g).kind=0))=true->r0=r0/\aP IntKind.i64 (g+1)/\∃g',gY L k g'/\(aI L k+1-g').toNat<(aI L k+1
  -g).toNat/\g+1=g'/\L=L/\k=k/\n=n/\void=void/\k=k/\aa L k=aa L k/\k.oid=k.oid/\((aa L k).slots.at 0).value=((aa L k).slots.at 0).value/\((aa L
  k).slots.at 1).value=((aa L k).slots.at 1).value/\aa L k=aa L k/\(aa L k).slots.at 0=(aa L k).slots.at 0/\(aa L k).slots.at 1=(aa L k).slots.at 1/\aa L k=
  aa L k/\k.oid=k.oid/\((aa L k).slots.at 0).value=((aa L k).slots.at 0).value/\((aa L k).slots.at 1).value=((aa L k).slots.at 1).value/\bK L (aE L k) g=bK L
  (aE L k) g'/\aa [] k=aa [] k/\Value.pointer none=Value.pointer none/\k.oid=k.oid/\((aa [] k).slots.at 0).value=((aa [] k).slots.at 0).value/\((aa [] k).slots.at
  1).value=((aa [] k).slots.at 1).value/\aa [] k=aa [] k/\(aa [] k).slots.at 0=(aa [] k).slots.at 0/\(aa [] k).slots.at 1=(aa [] k).slots.at 1/\aa [] k=
  aa [] k/\Value.pointer none=Value.pointer none/\k.oid=k.oid/\((aa [] k).slots.at 0).value=((aa [] k).slots.at 0).value/\((aa [] k).slots.at 1).value=((aa [] k).slots.at
  1).value/\aa [] k=aa [] k/\Value.pointer none=Value.pointer none/\k.oid=k.oid/\((aa [] k).slots.at 0).value=((aa [] k).slots.at 0).value/\((aa [] k).slots.at 1).value=
  ((aa [] k).slots.at 1).value/\void=void/\false=false/\aa [] k=aa [] k/\Value.pointer none=Value.pointer none/\k.oid=k.oid/\((aa [] k).slots.at 0).value=((aa []
  k).slots.at 0).value/\((aa [] k).slots.at 1).value=((aa [] k).slots.at 1).value/\r0=r0)/\((!decide ((aD [] g).kind=0))=false->(decide ((aD [] g).count=4294967295)=true->
  true=true/\r0=r0/\aP IntKind.i64 (g+1)/\∃g',gY L k g'/\(aI L k+1-g').toNat<(aI L k+1-g).toNat/\g+1=g'/\L=L/\k=k/\n=n/\void=void/\k=k/\aa L
  k=aa L k/\k.oid=k.oid/\((aa L k).slots.at 0).value=((aa L k).slots.at 0).value/\((aa L k).slots.at 1).value=((aa L k).slots.at 1).value/\aa L k=aa L k/\
  (aa L k).slots.at 0=(aa L k).slots.at 0/\(aa L k).slots.at 1=(aa L k).slots.at 1/\aa L k=aa L k/\k.oid=k.oid/\((aa L k).slots.at 0).value=((aa L
  k).slots.at 0).value/\((aa L k).slots.at 1).value=((aa L k).slots.at 1).value/\bK L (aE L k) g=bK L (aE L k) g'/\aa [] k=aa [] k/\Value.pointer none=
  Value.pointer none/\k.oid=k.oid/\((aa [] k).slots.at 0).value=((aa [] k).slots.at 0).value/\((aa [] k).slots.at 1).value=((aa [] k).slots.at 1).value/\aa [] k=aa []
  k/\(aa [] k).slots.at 0=(aa [] k).slots.at 0/\(aa [] k).slots.at 1=(aa [] k).slots.at 1/\aa [] k=aa [] k/\Value.pointer none=Value.pointer none/\k.oid=k.oid/\
  ((aa [] k).slots.at 0).value=((aa [] k).slots.at 0).value/\((aa [] k).slots.at 1).value=((aa [] k).slots.at 1).value/\aa [] k=aa [] k/\Value.pointer none=
  Value.pointer none/\k.oid=k.oid/\((aa [] k).slots.at 0).value=((aa [] k).slots.at 0).value/\((aa [] k).slots.at 1).value=((aa [] k).slots.at 1).value/\void=void/\false=
  false/\aa [] k=aa [] k/\Value.pointer none=Value.pointer none/\k.oid=k.oid/\((aa [] k).slots.at 0).value=((aa [] k).slots.at 0).value/\((aa [] k).slots.at 1).value=
  ((aa [] k).slots.at 1).value/\r0=r0)/\(decide ((aD [] g).count=4294967295)=false->aP IntKind.i64 ((aD [] g).count+1)/\true=true/\aP IntKind.i64 ((aD [] g).count+1)/\
  r0=r0/\aP IntKind.i64 (((aa [] k).slots.at 1).value-n)/\true=true/\((!decide ((bZ 1 g ((aD [] g).count+1)).oid<=((aa [] k).slots.at 1).value-n))=true->(void=b8 L
  k n/\221=bY L k n)/\L=bn L k n)/\((!decide ((bZ 1 g ((aD [] g).count+1)).oid<=((aa [] k).slots.at 1).value-n))=false->true=true/\true=true/\∀(r0:Loop),(∃g_1,
  n8 L k n g_1/\((aa [] k).slots.at 0).value=g_1/\L=L/\k=k/\n=n/\void=void/\k=k/\aa L k=aa L k/\k.oid=k.oid/\((aa L k).slots.at 0).value=((aa L
  k).slots.at 0).value/\((aa L k).slots.at 1).value=((aa L k).slots.at 1).value/\aa L k=aa L k/\(aa L k).slots.at 0=(aa L k).slots.at 0/\(aa L k).slots.at 1=
  (aa L k).slots.at 1/\aa L k=aa L k/\k.oid=k.oid/\((aa L k).slots.at 0).value=((aa L k).slots.at 0).value/\((aa L k).slots.at 1).value=((aa L k).slots.at 1).value
  /\bK L (aE L k) g=bK L (aE L k) g/\aa [] k=aa [] k/\Value.pointer none=Value.pointer none/\k.oid=k.oid/\((aa [] k).slots.at 0).value=((aa [] k).slots.at
  0).value/\((aa [] k).slots.at 1).value=((aa [] k).slots.at 1).value/\aa [] k=aa [] k/\(aa [] k).slots.at 0=(aa [] k).slots.at 0/\(aa [] k).slots.at 1=(aa []
  k).slots.at 1/\aa [] k=aa [] k/\Value.pointer none=Value.pointer none/\k.oid=k.oid/\((aa [] k).slots.at 0).value=((aa [] k).slots.at 0).value/\((aa [] k).slots.at
  1).value=((aa [] k).slots.at 1).value/\aa [] k=aa [] k/\Value.pointer none=Value.pointer none/\k.oid=k.oid/\((aa [] k).slots.at 0).value=((aa [] k).slots.at 0).value/\
  ((aa [] k).slots.at 1).value=((aa [] k).slots.at 1).value/\bZ 1 g ((aD [] g).count+1)=bZ 1 g ((aD [] g).count+1)/\true=true/\aa [] k=aa [] k/\Value.pointer
  none=Value.pointer none/\k.oid=k.oid/\((aa [] k).slots.at 0).value=((aa [] k).slots.at 0).value/\((aa [] k).slots.at 1).value=((aa [] k).slots.at 1).value/\aD [] g=
  aD [] g/\aD [] g=aD [] g/\bZ 1 g ((aD [] g).count+1)=bZ 1 g ((aD [] g).count+1)/\aa [] k=aa [] k/\Value.pointer none=Value.pointer none/\k.oid=k.oid/\
  ((aa [] k).slots.at 0).value=((aa [] k).slots.at 0).value/\((aa [] k).slots.at 1).value=((aa [] k).slots.at 1).value/\r0=r0)/\∀(g_1:Int),n8 L k n g_1->(decide (g_1<=
  ((aa [] k).slots.at 1).value)=true->r0=r0/\r0=r0/\aP IntKind.i64 (((aa [] k).slots.at 1).value-n)/\true=true/\((!(decide (g_1<=((aa [] k).slots.at 1).value-n)||decide
  ((aD [] g_1).kind=0)||decide ((aD [] g_1).kind=3)))=true->r0=r0/\(void=b8 L k n/\221=bY L k n)/\L=bn L k n)/\((!(decide (g_1<=((aa [] k).slots.at 1).value-n)
  ||decide ((aD [] g_1).kind=0)||decide ((aD [] g_1).kind=3)))=false->r0=r0/\aP IntKind.i64 (g_1+1)/\∃g',n8 L k n g'/\(aI L k+1-g').toNat<(aI L k+1-
  g_1).toNat/\g_1+1=g'/\L=L/\k=k/\n=n/\void=void/\k=k/\aa L k=aa L k/\k.oid=k.oid/\((aa L k).slots.at 0).value=((aa L k).slots.at 0).value/\((aa L
  k).slots.at 1).value=((aa L k).slots.at 1).value/\aa L k=aa L k/\(aa L k).slots.at 0=(aa L k).slots.at 0/\(aa L k).slots.at 1=(aa L k).slots.at 1/\aa L k=
  aa L k/\k.oid=k.oid/\((aa L k).slots.at 0).value=((aa L k).slots.at 0).value/\((aa L k).slots.at 1).value=((aa L k).slots.at 1).value/\bK L (aE L k) g=bK L
  (aE L k) g/\aa [] k=aa [] k/\Value.pointer none=Value.pointer none/\k.oid=k.oid/\((aa [] k).slots.at 0).value=((aa [] k).slots.at 0).value/\((aa [] k).slots.at
  1).value=((aa [] k).slots.at 1).value/\aa [] k=aa [] k/\(aa [] k).slots.at 0=(aa [] k).slots.at 0/\(aa [] k).slots.at 1=(aa [] k).slots.at 1/\aa [] k=
  aa [] k/\Value.pointer none=Value.pointer none/\k.oid=k.oid/\((aa [] k).slots.at 0).value=((aa [] k).slots.at 0).value/\((aa [] k).slots.at 1).value=((aa [] k).slots.at
  1).value/\aa [] k=aa [] k/\Value.pointer none=Value.pointer none/\k.oid=k.oid/\((aa [] k).slots.at 0).value=((aa [] k).slots.at 0).value/\((aa [] k).slots.at 1).value=
  ((aa [] k).slots.at 1).value/\bZ 1 g ((aD [] g).count+1)=bZ 1 g ((aD [] g).count+1)/\true=true/\aa [] k=aa [] k/\Value.pointer none=Value.pointer none/\k.oid
  =k.oid/\((aa [] k).slots.at 0).value=((aa [] k).slots.at 0).value/\((aa [] k).slots.at 1).value=((aa [] k).slots.at 1).value/\aD [] g=aD [] g/\aD [] g=aD [] g/\
  bZ 1 g ((aD [] g).count+1)=bZ 1 g ((aD [] g).count+1)/\aa [] k=aa [] k/\Value.pointer none=Value.pointer none/\k.oid=k.oid/\((aa [] k).slots.at 0).value=
  ((aa [] k).slots.at 0).value/\((aa [] k).slots.at 1).value=((aa [] k).slots.at 1).value/\r0=r0))/\(decide (g_1<=((aa [] k).slots.at 1).value)=false->true=true/\true=true
  /\aP IntKind.i64 (((aa [] k).slots.at 1).value-n)/\aP IntKind.i64 (((aa [] k).slots.at 1).value-n+1)/\true=true/\true=true/\true=true/\true=true/\true=true/\aP
  IntKind.i64 (((aa [] k).slots.at 1).value-n)/\true=true/\true=true/\true=true/\False)))))/\(decide (g<=((aa [] k).slots.at 1).value)=false->true=true/\(void=b8 L k n/\
  221=bY L k n)/\L=bn L k n)))))/\(aR L=false->true=true/\true=true/\((!decide (0<aj L))=true->(void=b8 L k n/\1=bY L k n)/\L=bn L k n)/\((!decide (0
  <aj L))=false->true=true/\((!(aT L k&&decide (k.kind=4)))=true->(void=b8 L k n/\190=bY L k n)/\L=bn L k n)/\((!(aT L k&&decide (k.kind=4)))=false->true=
  true/\((!(decide (((aa L k).slots.at 0).kind=1)&&decide (((aa L k).slots.at 1).kind=1)&&decide (0<=((aa L k).slots.at 0).value)&&decide (((aa L k).slots.at 0).value<=
  ((aa L k).slots.at 1).value)&&decide (((aa L k).slots.at 1).value<aj L)))=true->(void=b8 L k n/\220=bY L k n)/\L=bn L k n)/\((!(decide (((aa L k).slots.at
  0).kind=1)&&decide (((aa L k).slots.at 1).kind=1)&&decide (0<=((aa L k).slots.at 0).value)&&decide (((aa L k).slots.at 0).value<=((aa L k).slots.at 1).value)&&decide
  (((aa L k).slots.at 1).value<aj L)))=false->true=true/\true=true/\true=true/\∀(r0:Loop),(∃g,gY L k g/\((aa L k).slots.at 0).value=g/\L=L/\k=k/\n=n/\
  void=void/\k=k/\aa L k=aa L k/\k.oid=k.oid/\((aa L k).slots.at 0).value=((aa L k).slots.at 0).value/\((aa L k).slots.at 1).value=((aa L k).slots.at 1).value/\
  aa L k=aa L k/\(aa L k).slots.at 0=(aa L k).slots.at 0/\(aa L k).slots.at 1=(aa L k).slots.at 1/\aa L k=aa L k/\k.oid=k.oid/\((aa L k).slots.at
  0).value=((aa L k).slots.at 0).value/\((aa L k).slots.at 1).value=((aa L k).slots.at 1).value/\L=bK L (aE L k) g/\k=k/\aa L k=aa L k/\k.oid=k.oid/\((aa
  L k).slots.at 0).value=((aa L k).slots.at 0).value/\((aa L k).slots.at 1).value=((aa L k).slots.at 1).value/\aa L k=aa L k/\(aa L k).slots.at 0=(aa L k).slots.at
  0/\(aa L k).slots.at 1=(aa L k).slots.at 1/\aa L k=aa L k/\k.oid=k.oid/\((aa L k).slots.at 0).value=((aa L k).slots.at 0).value/\((aa L k).slots.at 1).value=
  ((aa L k).slots.at 1).value/\aa L k=aa L k/\k.oid=k.oid/\((aa L k).slots.at 0).value=((aa L k).slots.at 0).value/\((aa L k).slots.at 1).value=((aa L k).slots.at
  1).value/\void=void/\false=false/\aa L k=aa L k/\k.oid=k.oid/\((aa L k).slots.at 0).value=((aa L k).slots.at 0).value/\((aa L k).slots.at 1).value=((aa L
  k).slots.at 1).value/\r0=r0)/\∀(g:Int),gY L k g->(decide (g<=((aa L k).slots.at 1).value)=true->r0=r0/\r0=r0/\((!decide ((dR L k g).kind=0))=true->r0=r0/\aP
  IntKind.i64 (g+1)/\∃g',gY L k g'/\(aI L k+1-g').toNat<(aI L k+1-g).toNat/\g+1=g'/\L=L/\k=k/\n=n/\void=void/\k=k/\aa L k=aa L k/\k.oid=
  k.oid/\((aa L k).slots.at 0).value=((aa L k).slots.at 0).value/\((aa L k).slots.at 1).value=((aa L k).slots.at 1).value/\aa L k=aa L k/\(aa L k).slots.at 0=
  (aa L k).slots.at 0/\(aa L k).slots.at 1=(aa L k).slots.at 1/\aa L k=aa L k/\k.oid=k.oid/\((aa L k).slots.at 0).value=((aa L k).slots.at 0).value/\((aa L
  k).slots.at 1).value=((aa L k).slots.at 1).value/\bK L (aE L k) g=bK L (aE L k) g'/\k=k/\aa L k=aa L k/\k.oid=k.oid/\((aa L k).slots.at 0).value=((aa
  L k).slots.at 0).value/\((aa L k).slots.at 1).value=((aa L k).slots.at 1).value/\aa L k=aa L k/\(aa L k).slots.at 0=(aa L k).slots.at 0/\(aa L k).slots.at 1=
  (aa L k).slots.at 1/\aa L k=aa L k/\k.oid=k.oid/\((aa L k).slots.at 0).value=((aa L k).slots.at 0).value/\((aa L k).slots.at 1).value=((aa L k).slots.at 1).value
  /\aa L k=aa L k/\k.oid=k.oid/\((aa L k).slots.at 0).value=((aa L k).slots.at 0).value/\((aa L k).slots.at 1).value=((aa L k).slots.at 1).value/\void=void/\false=
  false/\aa L k=aa L k/\k.oid=k.oid/\((aa L k).slots.at 0).value=((aa L k).slots.at 0).value/\((aa L k).slots.at 1).value=((aa L k).slots.at 1).value/\r0=r0)/\
  ((!decide ((dR L k g).kind=0))=false->(decide ((dR L k g).count=4294967295)=true->true=true/\r0=r0/\aP IntKind.i64 (g+1)/\∃g',gY L k g'/\(aI L k+1-g').toNat<
  (aI L k+1-g).toNat/\g+1=g'/\L=L/\k=k/\n=n/\void=void/\k=k/\aa L k=aa L k/\k.oid=k.oid/\((aa L k).slots.at 0).value=((aa L k).slots.at 0).value/\
  ((aa L k).slots.at 1).value=((aa L k).slots.at 1).value/\aa L k=aa L k/\(aa L k).slots.at 0=(aa L k).slots.at 0/\(aa L k).slots.at 1=(aa L k).slots.at 1/\
  aa L k=aa L k/\k.oid=k.oid/\((aa L k).slots.at 0).value=((aa L k).slots.at 0).value/\((aa L k).slots.at 1).value=((aa L k).slots.at 1).value/\bP (bK L (aE
  L k) g) g (Obj.mk 3 (dR L k g).count free.calls free.slots free.bytes)=bK L (aE L k) g'/\k=k/\aa L k=aa L k/\k.oid=k.oid/\((aa L k).slots.at 0).value=((aa L
  k).slots.at 0).value/\((aa L k).slots.at 1).value=((aa L k).slots.at 1).value/\aa L k=aa L k/\(aa L k).slots.at 0=(aa L k).slots.at 0/\(aa L k).slots.at 1=
  (aa L k).slots.at 1/\aa L k=aa L k/\k.oid=k.oid/\((aa L k).slots.at 0).value=((aa L k).slots.at 0).value/\((aa L k).slots.at 1).value=((aa L k).slots.at 1).value
  /\aa L k=aa L k/\k.oid=k.oid/\((aa L k).slots.at 0).value=((aa L k).slots.at 0).value/\((aa L k).slots.at 1).value=((aa L k).slots.at 1).value/\void=void/\false=
  false/\aa L k=aa L k/\k.oid=k.oid/\((aa L k).slots.at 0).value=((aa L k).slots.at 0).value/\((aa L k).slots.at 1).value=((aa L k).slots.at 1).value/\r0=r0)/\
  (decide ((dR L k g).count=4294967295)=false->aP IntKind.i64 ((dR L k g).count+1)/\true=true/\aP IntKind.i64 ((dR L k g).count+1)/\r0=r0/\aP IntKind.i64 (((aa L
  k).slots.at 1).value-n)/\true=true/\((!decide (g<=((aa L k).slots.at 1).value-n))=true->(void=b8 L k n/\221=bY L k n)/\L=bn L k n)/\((!decide (g<=((aa L
  k).slots.at 1).value-n))=false->true=true/\true=true/\∀(r0:Loop),(∃g_1,n8 L k n g_1/\((aa L k).slots.at 0).value=g_1/\L=L/\k=k/\n=n/\void=void/\k=k/\aa
  L k=aa L k/\k.oid=k.oid/\((aa L k).slots.at 0).value=((aa L k).slots.at 0).value/\((aa L k).slots.at 1).value=((aa L k).slots.at 1).value/\aa L k=aa L k/\
  (aa L k).slots.at 0=(aa L k).slots.at 0/\(aa L k).slots.at 1=(aa L k).slots.at 1/\aa L k=aa L k/\k.oid=k.oid/\((aa L k).slots.at 0).value=((aa L
  k).slots.at 0).value/\((aa L k).slots.at 1).value=((aa L k).slots.at 1).value/\oL L k g=oL L k g/\k=k/\aa L k=aa L k/\k.oid=k.oid/\((aa L k).slots.at 0).value=
  ((aa L k).slots.at 0).value/\((aa L k).slots.at 1).value=((aa L k).slots.at 1).value/\aa L k=aa L k/\(aa L k).slots.at 0=(aa L k).slots.at 0/\(aa L k).slots.at
  1=(aa L k).slots.at 1/\aa L k=aa L k/\k.oid=k.oid/\((aa L k).slots.at 0).value=((aa L k).slots.at 0).value/\((aa L k).slots.at 1).value=((aa L k).slots.at
  1).value/\aa L k=aa L k/\k.oid=k.oid/\((aa L k).slots.at 0).value=((aa L k).slots.at 0).value/\((aa L k).slots.at 1).value=((aa L k).slots.at 1).value/\bZ 1 g
  ((dR L k g).count+1)=bZ 1 g ((dR L k g).count+1)/\true=true/\aa L k=aa L k/\k.oid=k.oid/\((aa L k).slots.at 0).value=((aa L k).slots.at 0).value/\((aa L
  k).slots.at 1).value=((aa L k).slots.at 1).value/\dR L k g=dR L k g/\dR L k g=dR L k g/\bZ 1 g ((dR L k g).count+1)=bZ 1 g ((dR L k g).count+1)/\aa L k=
  aa L k/\k.oid=k.oid/\((aa L k).slots.at 0).value=((aa L k).slots.at 0).value/\((aa L k).slots.at 1).value=((aa L k).slots.at 1).value/\r0=r0)/\∀(g_1:Int),n8 L
  k n g_1->(decide (g_1<=((aa L k).slots.at 1).value)=true->r0=r0/\r0=r0/\aP IntKind.i64 (((aa L k).slots.at 1).value-n)/\true=true/\((!(decide (g_1<=((aa L k).slots.at
  1).value-n)||decide ((aD (oL L k g) g_1).kind=0)||decide ((aD (oL L k g) g_1).kind=3)))=true->r0=r0/\(void=b8 L k n/\221=bY L k n)/\L=bn L k n)/\((!(decide
  (g_1<=((aa L k).slots.at 1).value-n)||decide ((aD (oL L k g) g_1).kind=0)||decide ((aD (oL L k g) g_1).kind=3)))=false->r0=r0/\aP IntKind.i64 (g_1+1)/\∃g',n8
  L k n g'/\(aI L k+1-g').toNat<(aI L k+1-g_1).toNat/\g_1+1=g'/\L=L/\k=k/\n=n/\void=void/\k=k/\aa L k=aa L k/\k.oid=k.oid/\((aa L k).slots.at
  0).value=((aa L k).slots.at 0).value/\((aa L k).slots.at 1).value=((aa L k).slots.at 1).value/\aa L k=aa L k/\(aa L k).slots.at 0=(aa L k).slots.at 0/\(aa L
  k).slots.at 1=(aa L k).slots.at 1/\aa L k=aa L k/\k.oid=k.oid/\((aa L k).slots.at 0).value=((aa L k).slots.at 0).value/\((aa L k).slots.at 1).value=((aa L
  k).slots.at 1).value/\oL L k g=oL L k g/\k=k/\aa L k=aa L k/\k.oid=k.oid/\((aa L k).slots.at 0).value=((aa L k).slots.at 0).value/\((aa L k).slots.at 1).value=
  ((aa L k).slots.at 1).value/\aa L k=aa L k/\(aa L k).slots.at 0=(aa L k).slots.at 0/\(aa L k).slots.at 1=(aa L k).slots.at 1/\aa L k=aa L k/\k.oid=
  k.oid/\((aa L k).slots.at 0).value=((aa L k).slots.at 0).value/\((aa L k).slots.at 1).value=((aa L k).slots.at 1).value/\aa L k=aa L k/\k.oid=k.oid/\((aa L
  k).slots.at 0).value=((aa L k).slots.at 0).value/\((aa L k).slots.at 1).value=((aa L k).slots.at 1).value/\bZ 1 g ((dR L k g).count+1)=bZ 1 g ((dR L k g).count+1)/\
  true=true/\aa L k=aa L k/\k.oid=k.oid/\((aa L k).slots.at 0).value=((aa L k).slots.at 0).value/\((aa L k).slots.at 1).value=((aa L k).slots.at 1).value/\dR L k
  g=dR L k g/\dR L k g=dR L k g/\bZ 1 g ((dR L k g).count+1)=bZ 1 g ((dR L k g).count+1)/\aa L k=aa L k/\k.oid=k.oid/\((aa L k).slots.at 0).value=
  ((aa L k).slots.at 0).value/\((aa L k).slots.at 1).value=((aa L k).slots.at 1).value/\r0=r0))/\(decide (g_1<=((aa L k).slots.at 1).value)=false->true=true/\true=true/\
  aP IntKind.i64 (((aa L k).slots.at 1).value-n)/\aP IntKind.i64 (((aa L k).slots.at 1).value-n+1)/\true=true/\true=true/\true=true/\true=true/\true=true/\aP
  IntKind.i64 (((aa L k).slots.at 1).value-n)/\true=true/\true=true/\true=true/\(an L).le 1000/\(iI L (kS L k n g)=true->(∃g_2,ql L (bn L k n) g_2/\Value.slice
  none 0 0=Value.slice none 0 0/\0=g_2/\L=kX L (bn L k n) g_2/\k=k/\n=n/\void=void/\k=k/\aa L k=aa L k/\k.oid=k.oid/\((aa L k).slots.at 0).value=((aa L
  k).slots.at 0).value/\((aa L k).slots.at 1).value=((aa L k).slots.at 1).value/\aa L k=aa L k/\(aa L k).slots.at 0=(aa L k).slots.at 0/\(aa L k).slots.at 1=
  (aa L k).slots.at 1/\aa L k=aa L k/\k.oid=k.oid/\((aa L k).slots.at 0).value=((aa L k).slots.at 0).value/\((aa L k).slots.at 1).value=((aa L k).slots.at 1).value
  /\kS L k n g=kS L k n g/\k=k/\aa L k=aa L k/\k.oid=k.oid/\((aa L k).slots.at 0).value=((aa L k).slots.at 0).value/\((aa L k).slots.at 1).value=((aa L
  k).slots.at 1).value/\aa L k=aa L k/\(aa L k).slots.at 0=(aa L k).slots.at 0/\(aa L k).slots.at 1=(aa L k).slots.at 1/\aa L k=aa L k/\k.oid=k.oid/\
  ((aa L k).slots.at 0).value=((aa L k).slots.at 0).value/\((aa L k).slots.at 1).value=((aa L k).slots.at 1).value/\aa L k=aa L k/\k.oid=k.oid/\((aa L k).slots.at
  0).value=((aa L k).slots.at 0).value/\((aa L k).slots.at 1).value=((aa L k).slots.at 1).value/\bZ 1 g ((dR L k g).count+1)=bZ 1 g ((dR L k g).count+1)/\true=true
  /\aa L k=aa L k/\k.oid=k.oid/\((aa L k).slots.at 0).value=((aa L k).slots.at 0).value/\((aa L k).slots.at 1).value=((aa L k).slots.at 1).value/\dR L k g=dR L k
  g/\dR L k g=dR L k g/\bZ 1 g ((dR L k g).count+1)=bZ 1 g ((dR L k g).count+1)/\aa L k=aa L k/\k.oid=k.oid/\((aa L k).slots.at 0).value=((aa L
  k).slots.at 0).value/\((aa L k).slots.at 1).value=((aa L k).slots.at 1).value/\zq L k n g=zq L k n g/\mV (((aa L k).slots.at 1).value-n+1)=mV (((aa L k).slots.at
  1).value-n+1)/\mV ((aa L k).slots.at 1).value=mV ((aa L k).slots.at 1).value/\Ai L k n g=Ai L k n g/\mV (((aa L k).slots.at 1).value-n)=mV (((aa L k).slots.at
  1).value-n))/\∀(g_2:Int),ql L (bn L k n) g_2->(decide (g_2<0)=true->False)/\(decide (g_2<0)=false->(Key.mk 4 g ((dR L k g).count+1) (bZ 1 g ((dR L k g).count+
  1)).call (bZ 1 g ((dR L k g).count+1)).rights (bZ 1 g ((dR L k g).count+1)).value=b8 L k n/\0=bY L k n)/\kX L (bn L k n) g_2=bn L k n))/\(iI L (kS L k n
  g)=false->(∃g_2,ql L (bn L k n) g_2/\bU (an (ck L (kS L k n g)))=bU (an (ck L (kS L k n g)))/\0=g_2/\L=kX L (bn L k n) g_2/\k=k/\n=n/\void=void/\k
  =k/\aa L k=aa L k/\k.oid=k.oid/\((aa L k).slots.at 0).value=((aa L k).slots.at 0).value/\((aa L k).slots.at 1).value=((aa L k).slots.at 1).value/\aa L k=
  aa L k/\(aa L k).slots.at 0=(aa L k).slots.at 0/\(aa L k).slots.at 1=(aa L k).slots.at 1/\aa L k=aa L k/\k.oid=k.oid/\((aa L k).slots.at 0).value=((aa
  L k).slots.at 0).value/\((aa L k).slots.at 1).value=((aa L k).slots.at 1).value/\kS L k n g=kS L k n g/\k=k/\aa L k=aa L k/\k.oid=k.oid/\((aa L k).slots.at
  0).value=((aa L k).slots.at 0).value/\((aa L k).slots.at 1).value=((aa L k).slots.at 1).value/\aa L k=aa L k/\(aa L k).slots.at 0=(aa L k).slots.at 0/\(aa L
  k).slots.at 1=(aa L k).slots.at 1/\aa L k=aa L k/\k.oid=k.oid/\((aa L k).slots.at 0).value=((aa L k).slots.at 0).value/\((aa L k).slots.at 1).value=((aa L
  k).slots.at 1).value/\aa L k=aa L k/\k.oid=k.oid/\((aa L k).slots.at 0).value=((aa L k).slots.at 0).value/\((aa L k).slots.at 1).value=((aa L k).slots.at 1).value/\
  bZ 1 g ((dR L k g).count+1)=bZ 1 g ((dR L k g).count+1)/\true=true/\aa L k=aa L k/\k.oid=k.oid/\((aa L k).slots.at 0).value=((aa L k).slots.at 0).value/\
  ((aa L k).slots.at 1).value=((aa L k).slots.at 1).value/\dR L k g=dR L k g/\dR L k g=dR L k g/\bZ 1 g ((dR L k g).count+1)=bZ 1 g ((dR L k g).count+1)/\
  aa L k=aa L k/\k.oid=k.oid/\((aa L k).slots.at 0).value=((aa L k).slots.at 0).value/\((aa L k).slots.at 1).value=((aa L k).slots.at 1).value/\zq L k n g=zq L k
  n g/\mV (((aa L k).slots.at 1).value-n+1)=mV (((aa L k).slots.at 1).value-n+1)/\mV ((aa L k).slots.at 1).value=mV ((aa L k).slots.at 1).value/\Ai L k n g=Ai
  L k n g/\mV (((aa L k).slots.at 1).value-n)=mV (((aa L k).slots.at 1).value-n)/\ck L (kS L k n g)=ck L (kS L k n g))/\∀(g_2:Int),ql L (bn L k n) g_2->
  (decide (g_2<bU (an (ck L (kS L k n g))))=true->(0<=g_2/\g_2< ↑(an (ck L (kS L k n g))))/\g_2.toNat<an (ck L (kS L k n g))/\true=true/\aP IntKind.i64 (g_2+1)/\
  ∃g',ql L (bn L k n) g'/\(bU (an (ck L (bn L k n)))-g').toNat<(bU (an (ck L (bn L k n)))-g_2).toNat/\bU (an (ck L (kS L k n g)))=bU (an (ck L (kS L
  k n g)))/\g_2+1=g'/\bP (kX L (bn L k n) g_2) (aq (ck L (kS L k n g)) g_2.toNat 0) (aD (kS L k n g) (aq (ck L (kS L k n g)) g_2.toNat 0))=kX L (bn L k n) g'/\
  k=k/\n=n/\void=void/\k=k/\aa L k=aa L k/\k.oid=k.oid/\((aa L k).slots.at 0).value=((aa L k).slots.at 0).value/\((aa L k).slots.at 1).value=((aa L
  k).slots.at 1).value/\aa L k=aa L k/\(aa L k).slots.at 0=(aa L k).slots.at 0/\(aa L k).slots.at 1=(aa L k).slots.at 1/\aa L k=aa L k/\k.oid=k.oid/\
  ((aa L k).slots.at 0).value=((aa L k).slots.at 0).value/\((aa L k).slots.at 1).value=((aa L k).slots.at 1).value/\kS L k n g=kS L k n g/\k=k/\aa L k=aa L k/\
  k.oid=k.oid/\((aa L k).slots.at 0).value=((aa L k).slots.at 0).value/\((aa L k).slots.at 1).value=((aa L k).slots.at 1).value/\aa L k=aa L k/\(aa L k).slots.at 0
  =(aa L k).slots.at 0/\(aa L k).slots.at 1=(aa L k).slots.at 1/\aa L k=aa L k/\k.oid=k.oid/\((aa L k).slots.at 0).value=((aa L k).slots.at 0).value/\((aa L
  k).slots.at 1).value=((aa L k).slots.at 1).value/\aa L k=aa L k/\k.oid=k.oid/\((aa L k).slots.at 0).value=((aa L k).slots.at 0).value/\((aa L k).slots.at 1).value=
  ((aa L k).slots.at 1).value/\bZ 1 g ((dR L k g).count+1)=bZ 1 g ((dR L k g).count+1)/\true=true/\aa L k=aa L k/\k.oid=k.oid/\((aa L k).slots.at 0).value=
  ((aa L k).slots.at 0).value/\((aa L k).slots.at 1).value=((aa L k).slots.at 1).value/\dR L k g=dR L k g/\dR L k g=dR L k g/\bZ 1 g ((dR L k g).count+1)=bZ 1
  g ((dR L k g).count+1)/\aa L k=aa L k/\k.oid=k.oid/\((aa L k).slots.at 0).value=((aa L k).slots.at 0).value/\((aa L k).slots.at 1).value=((aa L k).slots.at
  1).value/\zq L k n g=zq L k n g/\mV (((aa L k).slots.at 1).value-n+1)=mV (((aa L k).slots.at 1).value-n+1)/\mV ((aa L k).slots.at 1).value=mV ((aa L
  k).slots.at 1).value/\Ai L k n g=Ai L k n g/\mV (((aa L k).slots.at 1).value-n)=mV (((aa L k).slots.at 1).value-n)/\ck L (kS L k n g)=ck L (kS L k n g))/\(decide
  (g_2<bU (an (ck L (kS L k n g))))=false->(Key.mk 4 g ((dR L k g).count+1) (bZ 1 g ((dR L k g).count+1)).call (bZ 1 g ((dR L k g).count+1)).rights (bZ 1 g ((dR L k
  g).count+1)).value=b8 L k n/\0=bY L k n)/\kX L (bn L k n) g_2=bn L k n)))))))/\(decide (g<=((aa L k).slots.at 1).value)=false->true=true/\(void=b8 L k n/\221
  =bY L k n)/\L=bn L k n))))))))):=by
 refine⟨rfl,rfl,fun h=>nV (rE (D2 h) (by omega)) (by omega),fun h=>⟨rfl,fun h2=>nV (rE (SF h h2) (by omega)) (by omega),fun h2=>⟨rfl,fun h3=>nV (rE (So h h2 h3) (by omega)) (by omega),fun h3=>?_⟩⟩⟩
 obtain⟨e,e1,e2⟩:=LG h h2 h3;obtain⟨_,a0,a1,a2,a3,a4⟩:=om e;have hkd:=yP (lV h2).1 (lV h2).2;have hlen:=iN hL;have hll:an L=L.length:=rfl;have h3':=h3;rw[e1,e2]at h3';rw[e1,e2];have hr:∀x:Int,-1000<=x->x<=1000->aP IntKind.i64 x:=fun x h1 h2=>by simp only[aP,cj];omega
 refine⟨fun _=>hr _ (by omega) (by omega),rfl,fun h4=>nV (FB e (by simp only[Bool.not_eq_true',Bool.and_eq_false_iff,decide_eq_false_iff_not]at h4;omega)) (by omega),fun h4=>⟨rfl,(show L.length<=1000 by omega),fun hn=>?_,fun _=>⟨rfl,rfl,fun h'=>?_,fun _=>⟨rfl,fun h'=>?_,fun _=>⟨rfl,fun h'=>?_,fun _=>⟨rfl,rfl,rfl,fun r0=>?_⟩⟩⟩⟩⟩⟩
 ·exfalso
  have:=VO hn;omega
 ·rw[h]at h';exact absurd h' (by decide)
 ·rw[h2]at h';exact absurd h' (by decide)
 ·rw[h3']at h';exact absurd h' (by decide)
 simp only[Bool.not_eq_false',VK,VL]at h4;obtain⟨hn1,hn2⟩:=h4;have h0:=Ox e hn1 hn2;have hcnt:∀j:Nat,j<L.length->0<=(aq L j free).count/\(aq L j free).count<=4294967295:=fun j hj=>⟨(jU (cG hL j hj)).1,(jU (cG hL j hj)).2.1⟩
 have hci:∀j:Nat,j<L.length->aP IntKind.i64 ((aq L j free).count+1):=fun j hj=>by have:=hcnt j hj;simp only[aP,cj];omega
 refine⟨⟨aE L k,⟨by omega,by omega,vv⟩,rfl,?_⟩,fun g hg=>⟨fun hgl=>?_,fun hgl=>?_⟩⟩
 ·have hx:L=bK L (aE L k) (aE L k):=Cb;(repeat' apply And.intro)<;>first|with_reducible rfl|exact hx
 ·obtain⟨g0,g1,g2⟩:=hg;have hgl:=VO hgl;have hgn:g.toNat<L.length:=by omega
  have hgz:(bK L (aE L k) g).length=L.length:=k8;have hO:dR L k g=aq L g.toNat free:=by unfold dR;rw[fK (by omega) (by omega),Dp (by omega)]
  refine⟨rfl,rfl,fun hk0=>?_,fun hk0=>⟨fun hc=>?_,fun hc=>?_⟩⟩
  ·obtain⟨f1,f2⟩:=DR (o:=aq L g.toNat free) (by rw[<-hO];simpa using hk0)
   have hx:bK L (aE L k) g=bK L (aE L k) (g+1):=(Cf (by omega) f1).symm
   refine⟨rfl,hr _ (by omega) (by omega),g+1,⟨by omega,by omega,ot g2 f2⟩,by omega,rfl,?_⟩
   (repeat' apply And.intro)<;>first|with_reducible rfl|exact hx
  ·rw[hO]at hk0 hc;obtain⟨f1,f2⟩:=Kx (o:=aq L g.toNat free) (by simpa using hk0) (by have:=VO hc;omega)
   have hp:=(j8 (L:=bK L (aE L k) g) (i:=g) (by omega) (by omega) (hgz▸z6 (cG hL g.toNat hgn))).1
   have hx:bP (bK L (aE L k) g) g (Obj.mk 3 (dR L k g).count free.calls free.slots free.bytes)=bK L (aE L k) (g+1):=by rw[hO];exact hp.trans (EJ (by omega) (by omega) g0 f1)
   refine⟨rfl,rfl,hr _ (by omega) (by omega),g+1,⟨by omega,by omega,ot g2 f2⟩,by omega,rfl,?_⟩
   (repeat' apply And.intro)<;>first|with_reducible rfl|exact hx
  ·rw[hO]at hk0 hc;have hc:=VN hc;have:=hcnt _ hgn;obtain⟨f1,f2⟩:=Jf (o:=aq L g.toNat free) (by simpa using hk0) (by omega)
   obtain⟨i1,i2,i3,i4,i5,i6,i7,i8⟩:=OO hL e hkd g0 hgl g2 f2;have hcg:aP IntKind.i64 ((dR L k g).count+1):=by rw[hO];exact hci _ hgn
   refine⟨hcg,rfl,hcg,rfl,hr _ (by omega) (by omega),rfl,fun hc2=>nV (AB h0 (.inr (by rw[i1];simp only[Bool.not_eq_true',decide_eq_false_iff_not]at hc2;omega))) (by omega),fun hc2=>⟨rfl,rfl,fun r1=>⟨⟨aE L k,⟨by omega,by omega,Ex (by omega)⟩,rfl,?_⟩,fun j hj=>⟨fun hjl=>?_,fun hjl=>?_⟩⟩⟩⟩
   ·(repeat' apply And.intro)<;>first|with_reducible rfl|exact hx
   ·obtain⟨j0,j1,j2⟩:=hj;have hjl:=VO hjl;have hgj:aD (oL L k g) j=aq (dH L k) j.toNat free:=by rw[i3];exact fK (by omega) (by omega)
    rw[hgj];have hkk:=jU (cG i5 j.toNat (by omega))
    refine⟨rfl,rfl,hr _ (by omega) (by omega),rfl,fun hb=>⟨rfl,?_⟩,fun hb=>⟨rfl,hr _ (by omega) (by omega),j+1,⟨by omega,by omega,?_⟩,by omega,rfl,?_⟩⟩
    ·simp only[Bool.not_eq_true',Bool.or_eq_false_iff,decide_eq_false_iff_not]at hb;have hbz:lP (aq (dH L k) j.toNat free)=true:=by unfold lP;simp only[Bool.or_eq_true,VL];omega
     exact nV (Kj h0 (Hh (by omega) (by omega) (by omega) (by omega) hbz)) (by omega)
    ·simp only[Bool.not_eq_false',Bool.or_eq_true,VL]at hb;by_cases hjn:j<=aI L k-n
     ·exact Ex (by omega)
     ·have hbz:lP (aq (dH L k) j.toNat free)=false:=by unfold lP;simp only[Bool.or_eq_false_iff,decide_eq_false_iff_not];omega
      rw[Ow (by omega) hbz];exact j2
    ·(repeat' apply And.intro)<;>first|with_reducible rfl|exact hx
   ·obtain⟨j0,j1,j2⟩:=hj;have hjl:=VN hjl;have:j=aI L k+1:=by omega
    subst this;simp only[Bool.not_eq_false',VL]at hc2;have hE:=Ns h0 (by rw[i1];omega) (by rw[i1];omega) j2
    obtain⟨l1,l2,l3,l4⟩:=Md hL e hkd e2 g0 hgl g2 f2 hE;rw[l1];have hul:(ck L (bn L k n)).length<=L.length:=Mx;have hu:bU (an (ck L (bn L k n)))=((ck L (bn L k n)).length:Int):=rfl
    refine⟨rfl,rfl,hr _ (by omega) (by omega),hr _ (by omega) (by omega),rfl,rfl,rfl,rfl,rfl,hr _ (by omega) (by omega),rfl,rfl,rfl,(show L.length<=1000 by omega),fun hno=>?_,fun _=>⟨⟨0,⟨by omega,by omega⟩,rfl,rfl,?_⟩,fun t ht=>⟨fun htl=>?_,fun htl=>⟨⟨l4,hE.symm⟩,N6 l3 l2 ?_⟩⟩⟩⟩
    ·rw[Ja l3 (by omega)]at hno;exact absurd hno (by decide)
    ·have hx:L=kX L (bn L k n) 0:=rfl;(repeat' apply And.intro)<;>first|with_reducible rfl|exact hx
    ·obtain⟨t0,t1⟩:=ht;have htl:=VO htl;rw[hu]at htl;have hx:bP (kX L (bn L k n) t) (aq (ck L (bn L k n)) t.toNat 0) (aD (bn L k n) (aq (ck L (bn L k n)) t.toNat 0))=kX L (bn L k n) (t+1):=KD t0;refine⟨⟨t0,htl⟩,(show t.toNat<(ck L (bn L k n)).length by omega),rfl,hr _ (by omega) (by omega),t+1,⟨by omega,by omega⟩,by rw[hu];omega,rfl,rfl,?_⟩
     (repeat' apply And.intro)<;>first|with_reducible rfl|exact hx
    ·have htl:=VN htl;rw[hu]at htl;obtain⟨t0,t1⟩:=ht;omega
 ·obtain⟨g0,g1,g2⟩:=hg;have hgl:=VN hgl;have:g=aI L k+1:=by omega
  subst this;obtain⟨m1,m2,m3⟩:=JR 1 g2;exact⟨rfl,nV (AB h0 (.inl (by unfold fi;rw[m1];omega))) (by omega)⟩
theorem Fu (L:List Sx.Obj) (k:Key) (n:Int) (hL:aw L):ak Tryz.prog 169 [.lp 0 0,.key k,.it .i64 n] [.store tS eS L] (Ae (.tp [.key (b8 L k n),.it .i64 (bY L k n)]) (bn L k n)) (fun _ _=>False):=
 aN (inl:=(fun f=>f==214||f==213||f==218||f==219||f==220||f==221||f==222||f==223||f==1000000+232)) (ann:=(lr [(3000+232,1,UN [0,1] (fun g=> [(3,.it .i64 g)]) 11 (fun g=> .store tS eS (bK L (aE L k) g)) (gY L k) (AM (aI L k) 1)),(9000+232,1,TV [0,1] (fun g=> [(3,.it .i64 g)]) (n8 L k n) (AM (aI L k) 1)),(169,16,UN [0,6,7,9,10,90,91] (fun g=> [(92,.it .i64 g)]) 0 (fun g=> .store tS eS (kX L (bn L k n) g)) (ql L (bn L k n)) (bU (an (ck L (bn L k n)))))])) (ae bd (ae br (ae eM (ae qd ay)))) (aF cx (aF vp (aF Dv aB))) (cY fL) (GD L k n hL) (by kernel_rfl)
theorem FV:oM Tryz.prog 169 KY:=
 lO (m:=fun x=>Sn.cn x 0) (nW Ip (fun _=>rfl)) (fun _=>rfl) (fun _ _=>rfl) (fun x=>aN (inl:=(fun f=>f==214||f==213||f==218||f==219||f==220||f==221||f==222||f==223||f==1000000+232)) (ann:=aV) (ae bd (ae br (ae eM (ae qd ay)))) (aF cx (aF vp (aF Dv aB))) (cY fL) (Dj x.1 x.2.1) (by kernel_rfl)) (fun x=>aN (inl:=(fun f=>f==214||f==213||f==218||f==219||f==220||f==221||f==222||f==223||f==1000000+232)) (ann:=aV) (ae bd (ae br (ae eM (ae qd ay)))) (aF cx (aF vp (aF Dv aB))) (cY fL) (CB x.1 x.2.1) (by kernel_rfl)) fun L x hL _ _=>Fu L x.1 x.2.1 hL
end Go.Proofs.YtlblcfaclmpekaaGreat
