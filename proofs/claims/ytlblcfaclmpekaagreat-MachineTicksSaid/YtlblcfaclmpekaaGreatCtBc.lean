import Derived.Test.YtlblcfaclmpekaaGreatCB
import Derived.Test.YtlblcfaclmpekaaGreatCQ
set_option linter.unusedSimpArgs false
set_option linter.unusedVariables false
namespace Go.Proofs.YtlblcfaclmpekaaGreat
open Go.Sx
set_option maxRecDepth 100000
theorem CW (k:Key) (n:Int):
 true=true/\true=true/\((!decide (0<ah []))=true->void=bW [] k n/\1=bS [] k n)/\((!decide (0<ah []))=false->true=true/\((!(aO [] k&&decide (k.kind=4)))=
  true->void=bW [] k n/\190=bS [] k n)/\((!(aO [] k&&decide (k.kind=4)))=false->true=true/\((!(decide (((aa [] k).slots.at 0).kind=1)&&decide (((aa [] k).slots.at
  1).kind=1)&&decide (0<=((aa [] k).slots.at 0).value)&&decide (((aa [] k).slots.at 0).value<=((aa [] k).slots.at 1).value)&&decide (((aa [] k).slots.at 1).value<ah [])))
  =true->void=bW [] k n/\220=bS [] k n)/\((!(decide (((aa [] k).slots.at 0).kind=1)&&decide (((aa [] k).slots.at 1).kind=1)&&decide (0<=((aa [] k).slots.at 0).value)&&
  decide (((aa [] k).slots.at 0).value<=((aa [] k).slots.at 1).value)&&decide (((aa [] k).slots.at 1).value<ah [])))=false->(decide (1<=n)=true->aL IntKind.i64 (((aa []
  k).slots.at 1).value-((aa [] k).slots.at 0).value))/\true=true/\((!(decide (1<=n)&&decide (n<=((aa [] k).slots.at 1).value-((aa [] k).slots.at 0).value)))=true->void=bW
  [] k n/\4=bS [] k n)/\((!(decide (1<=n)&&decide (n<=((aa [] k).slots.at 1).value-((aa [] k).slots.at 0).value)))=false->true=true/\true=true/\true=true/\((!decide (0<
  ah []))=true->void=bW [] k n/\1=bS [] k n)/\((!decide (0<ah []))=false->true=true/\((!(aO [] k&&decide (k.kind=4)))=true->void=bW [] k n/\190=bS [] k
  n)/\((!(aO [] k&&decide (k.kind=4)))=false->true=true/\((!(decide (((aa [] k).slots.at 0).kind=1)&&decide (((aa [] k).slots.at 1).kind=1)&&decide (0<=((aa []
  k).slots.at 0).value)&&decide (((aa [] k).slots.at 0).value<=((aa [] k).slots.at 1).value)&&decide (((aa [] k).slots.at 1).value<ah [])))=true->void=bW [] k n/\220=
  bS [] k n)/\((!(decide (((aa [] k).slots.at 0).kind=1)&&decide (((aa [] k).slots.at 1).kind=1)&&decide (0<=((aa [] k).slots.at 0).value)&&decide (((aa [] k).slots.at
  0).value<=((aa [] k).slots.at 1).value)&&decide (((aa [] k).slots.at 1).value<ah [])))=false->true=true/\true=true/\true=true/\∀(r0:Loop),False))))))):=by
 exact⟨rfl,rfl,fun h=>(nD (sw (DI h) (by omega)) (by omega)).1,fun h=>absurd h (by decide)⟩
theorem Cl (k:Key) (n:Int):
 true=true/\true=true/\((!decide (0<ah []))=true->void=bW [] k n/\1=bS [] k n)/\((!decide (0<ah []))=false->true=true/\((!(aO [] k&&decide (k.kind=4)))=
  true->void=bW [] k n/\190=bS [] k n)/\((!(aO [] k&&decide (k.kind=4)))=false->true=true/\((!(decide (((aa [] k).slots.at 0).kind=1)&&decide (((aa [] k).slots.at
  1).kind=1)&&decide (0<=((aa [] k).slots.at 0).value)&&decide (((aa [] k).slots.at 0).value<=((aa [] k).slots.at 1).value)&&decide (((aa [] k).slots.at 1).value<ah [])))
  =true->void=bW [] k n/\220=bS [] k n)/\((!(decide (((aa [] k).slots.at 0).kind=1)&&decide (((aa [] k).slots.at 1).kind=1)&&decide (0<=((aa [] k).slots.at 0).value)&&
  decide (((aa [] k).slots.at 0).value<=((aa [] k).slots.at 1).value)&&decide (((aa [] k).slots.at 1).value<ah [])))=false->(decide (1<=n)=true->aL IntKind.i64 (((aa []
  k).slots.at 1).value-((aa [] k).slots.at 0).value))/\true=true/\((!(decide (1<=n)&&decide (n<=((aa [] k).slots.at 1).value-((aa [] k).slots.at 0).value)))=true->void=bW
  [] k n/\4=bS [] k n)/\((!(decide (1<=n)&&decide (n<=((aa [] k).slots.at 1).value-((aa [] k).slots.at 0).value)))=false->true=true/\False)))):=by
 exact⟨rfl,rfl,fun h=>(nD (sw (DI h) (by omega)) (by omega)).1,fun h=>absurd h (by decide)⟩
theorem FV (L:List Sx.Obj) (k:Key) (n:Int) (hL:an L):
 true=true/\true=true/\((!decide (0<ah L))=true->(void=bW L k n/\1=bS L k n)/\L=bg L k n)/\((!decide (0<ah L))=false->true=true/\((!(aO L k&&decide
  (k.kind=4)))=true->(void=bW L k n/\190=bS L k n)/\L=bg L k n)/\((!(aO L k&&decide (k.kind=4)))=false->true=true/\((!(decide (((aa L k).slots.at 0).kind=1)&&
  decide (((aa L k).slots.at 1).kind=1)&&decide (0<=((aa L k).slots.at 0).value)&&decide (((aa L k).slots.at 0).value<=((aa L k).slots.at 1).value)&&decide (((aa L
  k).slots.at 1).value<ah L)))=true->(void=bW L k n/\220=bS L k n)/\L=bg L k n)/\((!(decide (((aa L k).slots.at 0).kind=1)&&decide (((aa L k).slots.at 1).kind=1)
  &&decide (0<=((aa L k).slots.at 0).value)&&decide (((aa L k).slots.at 0).value<=((aa L k).slots.at 1).value)&&decide (((aa L k).slots.at 1).value<ah L)))=false->(decide
  (1<=n)=true->aL IntKind.i64 (((aa L k).slots.at 1).value-((aa L k).slots.at 0).value))/\true=true/\((!(decide (1<=n)&&decide (n<=((aa L k).slots.at 1).value-((aa L
  k).slots.at 0).value)))=true->(void=bW L k n/\4=bS L k n)/\L=bg L k n)/\((!(decide (1<=n)&&decide (n<=((aa L k).slots.at 1).value-((aa L k).slots.at 0).value)))=
  false->true=true/\(ar L).le 1000/\(bc L=true->true=true/\true=true/\((!decide (0<ah []))=true->(void=bW L k n/\1=bS L k n)/\L=bg L k n)/\((!decide (0<
  ah []))=false->true=true/\((!(aO [] k&&decide (k.kind=4)))=true->(void=bW L k n/\190=bS L k n)/\L=bg L k n)/\((!(aO [] k&&decide (k.kind=4)))=false->true=
  true/\((!(decide (((aa [] k).slots.at 0).kind=1)&&decide (((aa [] k).slots.at 1).kind=1)&&decide (0<=((aa [] k).slots.at 0).value)&&decide (((aa [] k).slots.at 0).value<=
  ((aa [] k).slots.at 1).value)&&decide (((aa [] k).slots.at 1).value<ah [])))=true->(void=bW L k n/\220=bS L k n)/\L=bg L k n)/\((!(decide (((aa [] k).slots.at
  0).kind=1)&&decide (((aa [] k).slots.at 1).kind=1)&&decide (0<=((aa [] k).slots.at 0).value)&&decide (((aa [] k).slots.at 0).value<=((aa [] k).slots.at 1).value)&&decide
  (((aa [] k).slots.at 1).value<ah [])))=false->true=true/\true=true/\true=true/\∀(r0:Loop),(∃g,gT L k g/\False)/\∀(g:Int),gT L k g->(decide (g<=((aa []
  k).slots.at 1).value)=true->r0=r0/\r0=r0/\((!decide ((az [] g).kind=0))=true->r0=r0/\aL IntKind.i64 (g+1)/\∃g',gT L k g'/\(aE L k+1-g').toNat<(aE L k+1
  -g).toNat/\g+1=g'/\L=L/\k=k/\n=n/\void=void/\k=k/\aa L k=aa L k/\k.oid=k.oid/\((aa L k).slots.at 0).value=((aa L k).slots.at 0).value/\((aa L
  k).slots.at 1).value=((aa L k).slots.at 1).value/\aa L k=aa L k/\(aa L k).slots.at 0=(aa L k).slots.at 0/\(aa L k).slots.at 1=(aa L k).slots.at 1/\aa L k=
  aa L k/\k.oid=k.oid/\((aa L k).slots.at 0).value=((aa L k).slots.at 0).value/\((aa L k).slots.at 1).value=((aa L k).slots.at 1).value/\bF L (aC L k) g=bF L
  (aC L k) g'/\aa [] k=aa [] k/\Value.pointer none=Value.pointer none/\k.oid=k.oid/\((aa [] k).slots.at 0).value=((aa [] k).slots.at 0).value/\((aa [] k).slots.at
  1).value=((aa [] k).slots.at 1).value/\aa [] k=aa [] k/\(aa [] k).slots.at 0=(aa [] k).slots.at 0/\(aa [] k).slots.at 1=(aa [] k).slots.at 1/\aa [] k=
  aa [] k/\Value.pointer none=Value.pointer none/\k.oid=k.oid/\((aa [] k).slots.at 0).value=((aa [] k).slots.at 0).value/\((aa [] k).slots.at 1).value=((aa [] k).slots.at
  1).value/\aa [] k=aa [] k/\Value.pointer none=Value.pointer none/\k.oid=k.oid/\((aa [] k).slots.at 0).value=((aa [] k).slots.at 0).value/\((aa [] k).slots.at 1).value=
  ((aa [] k).slots.at 1).value/\void=void/\false=false/\aa [] k=aa [] k/\Value.pointer none=Value.pointer none/\k.oid=k.oid/\((aa [] k).slots.at 0).value=((aa []
  k).slots.at 0).value/\((aa [] k).slots.at 1).value=((aa [] k).slots.at 1).value/\r0=r0)/\((!decide ((az [] g).kind=0))=false->(decide ((az [] g).count=4294967295)=true->
  true=true/\r0=r0/\aL IntKind.i64 (g+1)/\∃g',gT L k g'/\(aE L k+1-g').toNat<(aE L k+1-g).toNat/\g+1=g'/\L=L/\k=k/\n=n/\void=void/\k=k/\aa L
  k=aa L k/\k.oid=k.oid/\((aa L k).slots.at 0).value=((aa L k).slots.at 0).value/\((aa L k).slots.at 1).value=((aa L k).slots.at 1).value/\aa L k=aa L k/\
  (aa L k).slots.at 0=(aa L k).slots.at 0/\(aa L k).slots.at 1=(aa L k).slots.at 1/\aa L k=aa L k/\k.oid=k.oid/\((aa L k).slots.at 0).value=((aa L
  k).slots.at 0).value/\((aa L k).slots.at 1).value=((aa L k).slots.at 1).value/\bF L (aC L k) g=bF L (aC L k) g'/\aa [] k=aa [] k/\Value.pointer none=
  Value.pointer none/\k.oid=k.oid/\((aa [] k).slots.at 0).value=((aa [] k).slots.at 0).value/\((aa [] k).slots.at 1).value=((aa [] k).slots.at 1).value/\aa [] k=aa []
  k/\(aa [] k).slots.at 0=(aa [] k).slots.at 0/\(aa [] k).slots.at 1=(aa [] k).slots.at 1/\aa [] k=aa [] k/\Value.pointer none=Value.pointer none/\k.oid=k.oid/\
  ((aa [] k).slots.at 0).value=((aa [] k).slots.at 0).value/\((aa [] k).slots.at 1).value=((aa [] k).slots.at 1).value/\aa [] k=aa [] k/\Value.pointer none=
  Value.pointer none/\k.oid=k.oid/\((aa [] k).slots.at 0).value=((aa [] k).slots.at 0).value/\((aa [] k).slots.at 1).value=((aa [] k).slots.at 1).value/\void=void/\false=
  false/\aa [] k=aa [] k/\Value.pointer none=Value.pointer none/\k.oid=k.oid/\((aa [] k).slots.at 0).value=((aa [] k).slots.at 0).value/\((aa [] k).slots.at 1).value=
  ((aa [] k).slots.at 1).value/\r0=r0)/\(decide ((az [] g).count=4294967295)=false->aL IntKind.i64 ((az [] g).count+1)/\true=true/\aL IntKind.i64 ((az [] g).count+1)/\
  r0=r0/\aL IntKind.i64 (((aa [] k).slots.at 1).value-n)/\true=true/\((!decide ((bT 1 g ((az [] g).count+1)).oid<=((aa [] k).slots.at 1).value-n))=true->(void=bW L
  k n/\221=bS L k n)/\L=bg L k n)/\((!decide ((bT 1 g ((az [] g).count+1)).oid<=((aa [] k).slots.at 1).value-n))=false->true=true/\true=true/\∀(r0:Loop),(∃g_1,
  nw L k n g_1/\((aa [] k).slots.at 0).value=g_1/\L=L/\k=k/\n=n/\void=void/\k=k/\aa L k=aa L k/\k.oid=k.oid/\((aa L k).slots.at 0).value=((aa L
  k).slots.at 0).value/\((aa L k).slots.at 1).value=((aa L k).slots.at 1).value/\aa L k=aa L k/\(aa L k).slots.at 0=(aa L k).slots.at 0/\(aa L k).slots.at 1=
  (aa L k).slots.at 1/\aa L k=aa L k/\k.oid=k.oid/\((aa L k).slots.at 0).value=((aa L k).slots.at 0).value/\((aa L k).slots.at 1).value=((aa L k).slots.at 1).value
  /\bF L (aC L k) g=bF L (aC L k) g/\aa [] k=aa [] k/\Value.pointer none=Value.pointer none/\k.oid=k.oid/\((aa [] k).slots.at 0).value=((aa [] k).slots.at
  0).value/\((aa [] k).slots.at 1).value=((aa [] k).slots.at 1).value/\aa [] k=aa [] k/\(aa [] k).slots.at 0=(aa [] k).slots.at 0/\(aa [] k).slots.at 1=(aa []
  k).slots.at 1/\aa [] k=aa [] k/\Value.pointer none=Value.pointer none/\k.oid=k.oid/\((aa [] k).slots.at 0).value=((aa [] k).slots.at 0).value/\((aa [] k).slots.at
  1).value=((aa [] k).slots.at 1).value/\aa [] k=aa [] k/\Value.pointer none=Value.pointer none/\k.oid=k.oid/\((aa [] k).slots.at 0).value=((aa [] k).slots.at 0).value/\
  ((aa [] k).slots.at 1).value=((aa [] k).slots.at 1).value/\bT 1 g ((az [] g).count+1)=bT 1 g ((az [] g).count+1)/\true=true/\aa [] k=aa [] k/\Value.pointer
  none=Value.pointer none/\k.oid=k.oid/\((aa [] k).slots.at 0).value=((aa [] k).slots.at 0).value/\((aa [] k).slots.at 1).value=((aa [] k).slots.at 1).value/\az [] g=
  az [] g/\az [] g=az [] g/\bT 1 g ((az [] g).count+1)=bT 1 g ((az [] g).count+1)/\aa [] k=aa [] k/\Value.pointer none=Value.pointer none/\k.oid=k.oid/\
  ((aa [] k).slots.at 0).value=((aa [] k).slots.at 0).value/\((aa [] k).slots.at 1).value=((aa [] k).slots.at 1).value/\r0=r0)/\∀(g_1:Int),nw L k n g_1->(decide (g_1<=
  ((aa [] k).slots.at 1).value)=true->r0=r0/\r0=r0/\aL IntKind.i64 (((aa [] k).slots.at 1).value-n)/\true=true/\((!(decide (g_1<=((aa [] k).slots.at 1).value-n)||decide
  ((az [] g_1).kind=0)||decide ((az [] g_1).kind=3)))=true->r0=r0/\(void=bW L k n/\221=bS L k n)/\L=bg L k n)/\((!(decide (g_1<=((aa [] k).slots.at 1).value-n)
  ||decide ((az [] g_1).kind=0)||decide ((az [] g_1).kind=3)))=false->r0=r0/\aL IntKind.i64 (g_1+1)/\∃g',nw L k n g'/\(aE L k+1-g').toNat<(aE L k+1-
  g_1).toNat/\g_1+1=g'/\L=L/\k=k/\n=n/\void=void/\k=k/\aa L k=aa L k/\k.oid=k.oid/\((aa L k).slots.at 0).value=((aa L k).slots.at 0).value/\((aa L
  k).slots.at 1).value=((aa L k).slots.at 1).value/\aa L k=aa L k/\(aa L k).slots.at 0=(aa L k).slots.at 0/\(aa L k).slots.at 1=(aa L k).slots.at 1/\aa L k=
  aa L k/\k.oid=k.oid/\((aa L k).slots.at 0).value=((aa L k).slots.at 0).value/\((aa L k).slots.at 1).value=((aa L k).slots.at 1).value/\bF L (aC L k) g=bF L
  (aC L k) g/\aa [] k=aa [] k/\Value.pointer none=Value.pointer none/\k.oid=k.oid/\((aa [] k).slots.at 0).value=((aa [] k).slots.at 0).value/\((aa [] k).slots.at
  1).value=((aa [] k).slots.at 1).value/\aa [] k=aa [] k/\(aa [] k).slots.at 0=(aa [] k).slots.at 0/\(aa [] k).slots.at 1=(aa [] k).slots.at 1/\aa [] k=
  aa [] k/\Value.pointer none=Value.pointer none/\k.oid=k.oid/\((aa [] k).slots.at 0).value=((aa [] k).slots.at 0).value/\((aa [] k).slots.at 1).value=((aa [] k).slots.at
  1).value/\aa [] k=aa [] k/\Value.pointer none=Value.pointer none/\k.oid=k.oid/\((aa [] k).slots.at 0).value=((aa [] k).slots.at 0).value/\((aa [] k).slots.at 1).value=
  ((aa [] k).slots.at 1).value/\bT 1 g ((az [] g).count+1)=bT 1 g ((az [] g).count+1)/\true=true/\aa [] k=aa [] k/\Value.pointer none=Value.pointer none/\k.oid
  =k.oid/\((aa [] k).slots.at 0).value=((aa [] k).slots.at 0).value/\((aa [] k).slots.at 1).value=((aa [] k).slots.at 1).value/\az [] g=az [] g/\az [] g=az [] g/\
  bT 1 g ((az [] g).count+1)=bT 1 g ((az [] g).count+1)/\aa [] k=aa [] k/\Value.pointer none=Value.pointer none/\k.oid=k.oid/\((aa [] k).slots.at 0).value=
  ((aa [] k).slots.at 0).value/\((aa [] k).slots.at 1).value=((aa [] k).slots.at 1).value/\r0=r0))/\(decide (g_1<=((aa [] k).slots.at 1).value)=false->true=true/\true=true
  /\aL IntKind.i64 (((aa [] k).slots.at 1).value-n)/\aL IntKind.i64 (((aa [] k).slots.at 1).value-n+1)/\true=true/\true=true/\true=true/\true=true/\true=true/\aL
  IntKind.i64 (((aa [] k).slots.at 1).value-n)/\true=true/\true=true/\true=true/\False)))))/\(decide (g<=((aa [] k).slots.at 1).value)=false->true=true/\(void=bW L k n/\
  221=bS L k n)/\L=bg L k n)))))/\(bc L=false->true=true/\true=true/\((!decide (0<ah L))=true->(void=bW L k n/\1=bS L k n)/\L=bg L k n)/\((!decide (0
  <ah L))=false->true=true/\((!(aO L k&&decide (k.kind=4)))=true->(void=bW L k n/\190=bS L k n)/\L=bg L k n)/\((!(aO L k&&decide (k.kind=4)))=false->true=
  true/\((!(decide (((aa L k).slots.at 0).kind=1)&&decide (((aa L k).slots.at 1).kind=1)&&decide (0<=((aa L k).slots.at 0).value)&&decide (((aa L k).slots.at 0).value<=
  ((aa L k).slots.at 1).value)&&decide (((aa L k).slots.at 1).value<ah L)))=true->(void=bW L k n/\220=bS L k n)/\L=bg L k n)/\((!(decide (((aa L k).slots.at
  0).kind=1)&&decide (((aa L k).slots.at 1).kind=1)&&decide (0<=((aa L k).slots.at 0).value)&&decide (((aa L k).slots.at 0).value<=((aa L k).slots.at 1).value)&&decide
  (((aa L k).slots.at 1).value<ah L)))=false->true=true/\true=true/\true=true/\∀(r0:Loop),(∃g,gT L k g/\((aa L k).slots.at 0).value=g/\L=L/\k=k/\n=n/\
  void=void/\k=k/\aa L k=aa L k/\k.oid=k.oid/\((aa L k).slots.at 0).value=((aa L k).slots.at 0).value/\((aa L k).slots.at 1).value=((aa L k).slots.at 1).value/\
  aa L k=aa L k/\(aa L k).slots.at 0=(aa L k).slots.at 0/\(aa L k).slots.at 1=(aa L k).slots.at 1/\aa L k=aa L k/\k.oid=k.oid/\((aa L k).slots.at
  0).value=((aa L k).slots.at 0).value/\((aa L k).slots.at 1).value=((aa L k).slots.at 1).value/\L=bF L (aC L k) g/\k=k/\aa L k=aa L k/\k.oid=k.oid/\((aa
  L k).slots.at 0).value=((aa L k).slots.at 0).value/\((aa L k).slots.at 1).value=((aa L k).slots.at 1).value/\aa L k=aa L k/\(aa L k).slots.at 0=(aa L k).slots.at
  0/\(aa L k).slots.at 1=(aa L k).slots.at 1/\aa L k=aa L k/\k.oid=k.oid/\((aa L k).slots.at 0).value=((aa L k).slots.at 0).value/\((aa L k).slots.at 1).value=
  ((aa L k).slots.at 1).value/\aa L k=aa L k/\k.oid=k.oid/\((aa L k).slots.at 0).value=((aa L k).slots.at 0).value/\((aa L k).slots.at 1).value=((aa L k).slots.at
  1).value/\void=void/\false=false/\aa L k=aa L k/\k.oid=k.oid/\((aa L k).slots.at 0).value=((aa L k).slots.at 0).value/\((aa L k).slots.at 1).value=((aa L
  k).slots.at 1).value/\r0=r0)/\∀(g:Int),gT L k g->(decide (g<=((aa L k).slots.at 1).value)=true->r0=r0/\r0=r0/\((!decide ((dK L k g).kind=0))=true->r0=r0/\aL
  IntKind.i64 (g+1)/\∃g',gT L k g'/\(aE L k+1-g').toNat<(aE L k+1-g).toNat/\g+1=g'/\L=L/\k=k/\n=n/\void=void/\k=k/\aa L k=aa L k/\k.oid=
  k.oid/\((aa L k).slots.at 0).value=((aa L k).slots.at 0).value/\((aa L k).slots.at 1).value=((aa L k).slots.at 1).value/\aa L k=aa L k/\(aa L k).slots.at 0=
  (aa L k).slots.at 0/\(aa L k).slots.at 1=(aa L k).slots.at 1/\aa L k=aa L k/\k.oid=k.oid/\((aa L k).slots.at 0).value=((aa L k).slots.at 0).value/\((aa L
  k).slots.at 1).value=((aa L k).slots.at 1).value/\bF L (aC L k) g=bF L (aC L k) g'/\k=k/\aa L k=aa L k/\k.oid=k.oid/\((aa L k).slots.at 0).value=((aa
  L k).slots.at 0).value/\((aa L k).slots.at 1).value=((aa L k).slots.at 1).value/\aa L k=aa L k/\(aa L k).slots.at 0=(aa L k).slots.at 0/\(aa L k).slots.at 1=
  (aa L k).slots.at 1/\aa L k=aa L k/\k.oid=k.oid/\((aa L k).slots.at 0).value=((aa L k).slots.at 0).value/\((aa L k).slots.at 1).value=((aa L k).slots.at 1).value
  /\aa L k=aa L k/\k.oid=k.oid/\((aa L k).slots.at 0).value=((aa L k).slots.at 0).value/\((aa L k).slots.at 1).value=((aa L k).slots.at 1).value/\void=void/\false=
  false/\aa L k=aa L k/\k.oid=k.oid/\((aa L k).slots.at 0).value=((aa L k).slots.at 0).value/\((aa L k).slots.at 1).value=((aa L k).slots.at 1).value/\r0=r0)/\
  ((!decide ((dK L k g).kind=0))=false->(decide ((dK L k g).count=4294967295)=true->true=true/\r0=r0/\aL IntKind.i64 (g+1)/\∃g',gT L k g'/\(aE L k+1-g').toNat<
  (aE L k+1-g).toNat/\g+1=g'/\L=L/\k=k/\n=n/\void=void/\k=k/\aa L k=aa L k/\k.oid=k.oid/\((aa L k).slots.at 0).value=((aa L k).slots.at 0).value/\
  ((aa L k).slots.at 1).value=((aa L k).slots.at 1).value/\aa L k=aa L k/\(aa L k).slots.at 0=(aa L k).slots.at 0/\(aa L k).slots.at 1=(aa L k).slots.at 1/\
  aa L k=aa L k/\k.oid=k.oid/\((aa L k).slots.at 0).value=((aa L k).slots.at 0).value/\((aa L k).slots.at 1).value=((aa L k).slots.at 1).value/\bO (bF L (aC
  L k) g) g (Obj.mk 3 (dK L k g).count free.calls free.slots free.bytes)=bF L (aC L k) g'/\k=k/\aa L k=aa L k/\k.oid=k.oid/\((aa L k).slots.at 0).value=((aa L
  k).slots.at 0).value/\((aa L k).slots.at 1).value=((aa L k).slots.at 1).value/\aa L k=aa L k/\(aa L k).slots.at 0=(aa L k).slots.at 0/\(aa L k).slots.at 1=
  (aa L k).slots.at 1/\aa L k=aa L k/\k.oid=k.oid/\((aa L k).slots.at 0).value=((aa L k).slots.at 0).value/\((aa L k).slots.at 1).value=((aa L k).slots.at 1).value
  /\aa L k=aa L k/\k.oid=k.oid/\((aa L k).slots.at 0).value=((aa L k).slots.at 0).value/\((aa L k).slots.at 1).value=((aa L k).slots.at 1).value/\void=void/\false=
  false/\aa L k=aa L k/\k.oid=k.oid/\((aa L k).slots.at 0).value=((aa L k).slots.at 0).value/\((aa L k).slots.at 1).value=((aa L k).slots.at 1).value/\r0=r0)/\
  (decide ((dK L k g).count=4294967295)=false->aL IntKind.i64 ((dK L k g).count+1)/\true=true/\aL IntKind.i64 ((dK L k g).count+1)/\r0=r0/\aL IntKind.i64 (((aa L
  k).slots.at 1).value-n)/\true=true/\((!decide (g<=((aa L k).slots.at 1).value-n))=true->(void=bW L k n/\221=bS L k n)/\L=bg L k n)/\((!decide (g<=((aa L
  k).slots.at 1).value-n))=false->true=true/\true=true/\∀(r0:Loop),(∃g_1,nw L k n g_1/\((aa L k).slots.at 0).value=g_1/\L=L/\k=k/\n=n/\void=void/\k=k/\aa
  L k=aa L k/\k.oid=k.oid/\((aa L k).slots.at 0).value=((aa L k).slots.at 0).value/\((aa L k).slots.at 1).value=((aa L k).slots.at 1).value/\aa L k=aa L k/\
  (aa L k).slots.at 0=(aa L k).slots.at 0/\(aa L k).slots.at 1=(aa L k).slots.at 1/\aa L k=aa L k/\k.oid=k.oid/\((aa L k).slots.at 0).value=((aa L
  k).slots.at 0).value/\((aa L k).slots.at 1).value=((aa L k).slots.at 1).value/\oh L k g=oh L k g/\k=k/\aa L k=aa L k/\k.oid=k.oid/\((aa L k).slots.at 0).value=
  ((aa L k).slots.at 0).value/\((aa L k).slots.at 1).value=((aa L k).slots.at 1).value/\aa L k=aa L k/\(aa L k).slots.at 0=(aa L k).slots.at 0/\(aa L k).slots.at
  1=(aa L k).slots.at 1/\aa L k=aa L k/\k.oid=k.oid/\((aa L k).slots.at 0).value=((aa L k).slots.at 0).value/\((aa L k).slots.at 1).value=((aa L k).slots.at
  1).value/\aa L k=aa L k/\k.oid=k.oid/\((aa L k).slots.at 0).value=((aa L k).slots.at 0).value/\((aa L k).slots.at 1).value=((aa L k).slots.at 1).value/\bT 1 g
  ((dK L k g).count+1)=bT 1 g ((dK L k g).count+1)/\true=true/\aa L k=aa L k/\k.oid=k.oid/\((aa L k).slots.at 0).value=((aa L k).slots.at 0).value/\((aa L
  k).slots.at 1).value=((aa L k).slots.at 1).value/\dK L k g=dK L k g/\dK L k g=dK L k g/\bT 1 g ((dK L k g).count+1)=bT 1 g ((dK L k g).count+1)/\aa L k=
  aa L k/\k.oid=k.oid/\((aa L k).slots.at 0).value=((aa L k).slots.at 0).value/\((aa L k).slots.at 1).value=((aa L k).slots.at 1).value/\r0=r0)/\∀(g_1:Int),nw L
  k n g_1->(decide (g_1<=((aa L k).slots.at 1).value)=true->r0=r0/\r0=r0/\aL IntKind.i64 (((aa L k).slots.at 1).value-n)/\true=true/\((!(decide (g_1<=((aa L k).slots.at
  1).value-n)||decide ((az (oh L k g) g_1).kind=0)||decide ((az (oh L k g) g_1).kind=3)))=true->r0=r0/\(void=bW L k n/\221=bS L k n)/\L=bg L k n)/\((!(decide
  (g_1<=((aa L k).slots.at 1).value-n)||decide ((az (oh L k g) g_1).kind=0)||decide ((az (oh L k g) g_1).kind=3)))=false->r0=r0/\aL IntKind.i64 (g_1+1)/\∃g',nw
  L k n g'/\(aE L k+1-g').toNat<(aE L k+1-g_1).toNat/\g_1+1=g'/\L=L/\k=k/\n=n/\void=void/\k=k/\aa L k=aa L k/\k.oid=k.oid/\((aa L k).slots.at
  0).value=((aa L k).slots.at 0).value/\((aa L k).slots.at 1).value=((aa L k).slots.at 1).value/\aa L k=aa L k/\(aa L k).slots.at 0=(aa L k).slots.at 0/\(aa L
  k).slots.at 1=(aa L k).slots.at 1/\aa L k=aa L k/\k.oid=k.oid/\((aa L k).slots.at 0).value=((aa L k).slots.at 0).value/\((aa L k).slots.at 1).value=((aa L
  k).slots.at 1).value/\oh L k g=oh L k g/\k=k/\aa L k=aa L k/\k.oid=k.oid/\((aa L k).slots.at 0).value=((aa L k).slots.at 0).value/\((aa L k).slots.at 1).value=
  ((aa L k).slots.at 1).value/\aa L k=aa L k/\(aa L k).slots.at 0=(aa L k).slots.at 0/\(aa L k).slots.at 1=(aa L k).slots.at 1/\aa L k=aa L k/\k.oid=
  k.oid/\((aa L k).slots.at 0).value=((aa L k).slots.at 0).value/\((aa L k).slots.at 1).value=((aa L k).slots.at 1).value/\aa L k=aa L k/\k.oid=k.oid/\((aa L
  k).slots.at 0).value=((aa L k).slots.at 0).value/\((aa L k).slots.at 1).value=((aa L k).slots.at 1).value/\bT 1 g ((dK L k g).count+1)=bT 1 g ((dK L k g).count+1)/\
  true=true/\aa L k=aa L k/\k.oid=k.oid/\((aa L k).slots.at 0).value=((aa L k).slots.at 0).value/\((aa L k).slots.at 1).value=((aa L k).slots.at 1).value/\dK L k
  g=dK L k g/\dK L k g=dK L k g/\bT 1 g ((dK L k g).count+1)=bT 1 g ((dK L k g).count+1)/\aa L k=aa L k/\k.oid=k.oid/\((aa L k).slots.at 0).value=
  ((aa L k).slots.at 0).value/\((aa L k).slots.at 1).value=((aa L k).slots.at 1).value/\r0=r0))/\(decide (g_1<=((aa L k).slots.at 1).value)=false->true=true/\true=true/\
  aL IntKind.i64 (((aa L k).slots.at 1).value-n)/\aL IntKind.i64 (((aa L k).slots.at 1).value-n+1)/\true=true/\true=true/\true=true/\true=true/\true=true/\aL
  IntKind.i64 (((aa L k).slots.at 1).value-n)/\true=true/\true=true/\true=true/\(ar L).le 1000/\(iF L (ko L k n g)=true->(∃g_2,pB L (bg L k n) g_2/\Value.slice
  none 0 0=Value.slice none 0 0/\0=g_2/\L=kD L (bg L k n) g_2/\k=k/\n=n/\void=void/\k=k/\aa L k=aa L k/\k.oid=k.oid/\((aa L k).slots.at 0).value=((aa L
  k).slots.at 0).value/\((aa L k).slots.at 1).value=((aa L k).slots.at 1).value/\aa L k=aa L k/\(aa L k).slots.at 0=(aa L k).slots.at 0/\(aa L k).slots.at 1=
  (aa L k).slots.at 1/\aa L k=aa L k/\k.oid=k.oid/\((aa L k).slots.at 0).value=((aa L k).slots.at 0).value/\((aa L k).slots.at 1).value=((aa L k).slots.at 1).value
  /\ko L k n g=ko L k n g/\k=k/\aa L k=aa L k/\k.oid=k.oid/\((aa L k).slots.at 0).value=((aa L k).slots.at 0).value/\((aa L k).slots.at 1).value=((aa L
  k).slots.at 1).value/\aa L k=aa L k/\(aa L k).slots.at 0=(aa L k).slots.at 0/\(aa L k).slots.at 1=(aa L k).slots.at 1/\aa L k=aa L k/\k.oid=k.oid/\
  ((aa L k).slots.at 0).value=((aa L k).slots.at 0).value/\((aa L k).slots.at 1).value=((aa L k).slots.at 1).value/\aa L k=aa L k/\k.oid=k.oid/\((aa L k).slots.at
  0).value=((aa L k).slots.at 0).value/\((aa L k).slots.at 1).value=((aa L k).slots.at 1).value/\bT 1 g ((dK L k g).count+1)=bT 1 g ((dK L k g).count+1)/\true=true
  /\aa L k=aa L k/\k.oid=k.oid/\((aa L k).slots.at 0).value=((aa L k).slots.at 0).value/\((aa L k).slots.at 1).value=((aa L k).slots.at 1).value/\dK L k g=dK L k
  g/\dK L k g=dK L k g/\bT 1 g ((dK L k g).count+1)=bT 1 g ((dK L k g).count+1)/\aa L k=aa L k/\k.oid=k.oid/\((aa L k).slots.at 0).value=((aa L
  k).slots.at 0).value/\((aa L k).slots.at 1).value=((aa L k).slots.at 1).value/\zp L k n g=zp L k n g/\mD (((aa L k).slots.at 1).value-n+1)=mD (((aa L k).slots.at
  1).value-n+1)/\mD ((aa L k).slots.at 1).value=mD ((aa L k).slots.at 1).value/\zM L k n g=zM L k n g/\mD (((aa L k).slots.at 1).value-n)=mD (((aa L k).slots.at
  1).value-n))/\∀(g_2:Int),pB L (bg L k n) g_2->(decide (g_2<0)=true->False)/\(decide (g_2<0)=false->(Key.mk 4 g ((dK L k g).count+1) (bT 1 g ((dK L k g).count+
  1)).call (bT 1 g ((dK L k g).count+1)).rights (bT 1 g ((dK L k g).count+1)).value=bW L k n/\0=bS L k n)/\kD L (bg L k n) g_2=bg L k n))/\(iF L (ko L k n
  g)=false->(∃g_2,pB L (bg L k n) g_2/\dJ (ar (cB L (ko L k n g)))=dJ (ar (cB L (ko L k n g)))/\0=g_2/\L=kD L (bg L k n) g_2/\k=k/\n=n/\void=void/\k
  =k/\aa L k=aa L k/\k.oid=k.oid/\((aa L k).slots.at 0).value=((aa L k).slots.at 0).value/\((aa L k).slots.at 1).value=((aa L k).slots.at 1).value/\aa L k=
  aa L k/\(aa L k).slots.at 0=(aa L k).slots.at 0/\(aa L k).slots.at 1=(aa L k).slots.at 1/\aa L k=aa L k/\k.oid=k.oid/\((aa L k).slots.at 0).value=((aa
  L k).slots.at 0).value/\((aa L k).slots.at 1).value=((aa L k).slots.at 1).value/\ko L k n g=ko L k n g/\k=k/\aa L k=aa L k/\k.oid=k.oid/\((aa L k).slots.at
  0).value=((aa L k).slots.at 0).value/\((aa L k).slots.at 1).value=((aa L k).slots.at 1).value/\aa L k=aa L k/\(aa L k).slots.at 0=(aa L k).slots.at 0/\(aa L
  k).slots.at 1=(aa L k).slots.at 1/\aa L k=aa L k/\k.oid=k.oid/\((aa L k).slots.at 0).value=((aa L k).slots.at 0).value/\((aa L k).slots.at 1).value=((aa L
  k).slots.at 1).value/\aa L k=aa L k/\k.oid=k.oid/\((aa L k).slots.at 0).value=((aa L k).slots.at 0).value/\((aa L k).slots.at 1).value=((aa L k).slots.at 1).value/\
  bT 1 g ((dK L k g).count+1)=bT 1 g ((dK L k g).count+1)/\true=true/\aa L k=aa L k/\k.oid=k.oid/\((aa L k).slots.at 0).value=((aa L k).slots.at 0).value/\
  ((aa L k).slots.at 1).value=((aa L k).slots.at 1).value/\dK L k g=dK L k g/\dK L k g=dK L k g/\bT 1 g ((dK L k g).count+1)=bT 1 g ((dK L k g).count+1)/\
  aa L k=aa L k/\k.oid=k.oid/\((aa L k).slots.at 0).value=((aa L k).slots.at 0).value/\((aa L k).slots.at 1).value=((aa L k).slots.at 1).value/\zp L k n g=zp L k
  n g/\mD (((aa L k).slots.at 1).value-n+1)=mD (((aa L k).slots.at 1).value-n+1)/\mD ((aa L k).slots.at 1).value=mD ((aa L k).slots.at 1).value/\zM L k n g=zM
  L k n g/\mD (((aa L k).slots.at 1).value-n)=mD (((aa L k).slots.at 1).value-n)/\cB L (ko L k n g)=cB L (ko L k n g))/\∀(g_2:Int),pB L (bg L k n) g_2->
  (decide (g_2<dJ (ar (cB L (ko L k n g))))=true->(0<=g_2/\g_2< ↑(ar (cB L (ko L k n g))))/\g_2.toNat<ar (cB L (ko L k n g))/\true=true/\aL IntKind.i64 (g_2+1)/\
  ∃g',pB L (bg L k n) g'/\(dJ (ar (cB L (bg L k n)))-g').toNat<(dJ (ar (cB L (bg L k n)))-g_2).toNat/\dJ (ar (cB L (ko L k n g)))=dJ (ar (cB L (ko L
  k n g)))/\g_2+1=g'/\bO (kD L (bg L k n) g_2) (ai (cB L (ko L k n g)) g_2.toNat 0) (az (ko L k n g) (ai (cB L (ko L k n g)) g_2.toNat 0))=kD L (bg L k n) g'/\
  k=k/\n=n/\void=void/\k=k/\aa L k=aa L k/\k.oid=k.oid/\((aa L k).slots.at 0).value=((aa L k).slots.at 0).value/\((aa L k).slots.at 1).value=((aa L
  k).slots.at 1).value/\aa L k=aa L k/\(aa L k).slots.at 0=(aa L k).slots.at 0/\(aa L k).slots.at 1=(aa L k).slots.at 1/\aa L k=aa L k/\k.oid=k.oid/\
  ((aa L k).slots.at 0).value=((aa L k).slots.at 0).value/\((aa L k).slots.at 1).value=((aa L k).slots.at 1).value/\ko L k n g=ko L k n g/\k=k/\aa L k=aa L k/\
  k.oid=k.oid/\((aa L k).slots.at 0).value=((aa L k).slots.at 0).value/\((aa L k).slots.at 1).value=((aa L k).slots.at 1).value/\aa L k=aa L k/\(aa L k).slots.at 0
  =(aa L k).slots.at 0/\(aa L k).slots.at 1=(aa L k).slots.at 1/\aa L k=aa L k/\k.oid=k.oid/\((aa L k).slots.at 0).value=((aa L k).slots.at 0).value/\((aa L
  k).slots.at 1).value=((aa L k).slots.at 1).value/\aa L k=aa L k/\k.oid=k.oid/\((aa L k).slots.at 0).value=((aa L k).slots.at 0).value/\((aa L k).slots.at 1).value=
  ((aa L k).slots.at 1).value/\bT 1 g ((dK L k g).count+1)=bT 1 g ((dK L k g).count+1)/\true=true/\aa L k=aa L k/\k.oid=k.oid/\((aa L k).slots.at 0).value=
  ((aa L k).slots.at 0).value/\((aa L k).slots.at 1).value=((aa L k).slots.at 1).value/\dK L k g=dK L k g/\dK L k g=dK L k g/\bT 1 g ((dK L k g).count+1)=bT 1
  g ((dK L k g).count+1)/\aa L k=aa L k/\k.oid=k.oid/\((aa L k).slots.at 0).value=((aa L k).slots.at 0).value/\((aa L k).slots.at 1).value=((aa L k).slots.at
  1).value/\zp L k n g=zp L k n g/\mD (((aa L k).slots.at 1).value-n+1)=mD (((aa L k).slots.at 1).value-n+1)/\mD ((aa L k).slots.at 1).value=mD ((aa L
  k).slots.at 1).value/\zM L k n g=zM L k n g/\mD (((aa L k).slots.at 1).value-n)=mD (((aa L k).slots.at 1).value-n)/\cB L (ko L k n g)=cB L (ko L k n g))/\(decide
  (g_2<dJ (ar (cB L (ko L k n g))))=false->(Key.mk 4 g ((dK L k g).count+1) (bT 1 g ((dK L k g).count+1)).call (bT 1 g ((dK L k g).count+1)).rights (bT 1 g ((dK L k
  g).count+1)).value=bW L k n/\0=bS L k n)/\kD L (bg L k n) g_2=bg L k n)))))))/\(decide (g<=((aa L k).slots.at 1).value)=false->true=true/\(void=bW L k n/\221
  =bS L k n)/\L=bg L k n))))))))):=by
 refine⟨rfl,rfl,fun h=>nD (sw (DI h) (by omega)) (by omega),fun h=>⟨rfl,fun h2=>nD (sw (Rm h h2) (by omega)) (by omega),fun h2=>⟨rfl,fun h3=>nD (sw (Sg h h2 h3) (by omega)) (by omega),fun h3=>?_⟩⟩⟩
 obtain⟨e,e1,e2⟩:=LQ h h2 h3;obtain⟨_,a0,a1,a2,a3,a4⟩:=nE e;have hkd:=yv (lr h2).1 (lr h2).2;have hlen:=jy hL;have hll:ar L=L.length:=rfl;have h3':=h3;rw[e1,e2]at h3';rw[e1,e2];have hr:∀x:Int,-1000<=x->x<=1000->aL IntKind.i64 x:=fun x h1 h2=>by simp only[aL,b7];omega
 refine⟨fun _=>hr _ (by omega) (by omega),rfl,fun h4=>nD (E0 e (by simp only[Bool.not_eq_true',Bool.and_eq_false_iff,decide_eq_false_iff_not]at h4;omega)) (by omega),fun h4=>⟨rfl,(show L.length<=1000 by omega),fun hn=>?_,fun _=>⟨rfl,rfl,fun h'=>?_,fun _=>⟨rfl,fun h'=>?_,fun _=>⟨rfl,fun h'=>?_,fun _=>⟨rfl,rfl,rfl,fun r0=>?_⟩⟩⟩⟩⟩⟩
 ·exfalso
  have:=UX hn;omega
 ·rw[h]at h';exact absurd h' (by decide)
 ·rw[h2]at h';exact absurd h' (by decide)
 ·rw[h3']at h';exact absurd h' (by decide)
 simp only[Bool.not_eq_false',US,UT]at h4;obtain⟨hn1,hn2⟩:=h4;have h0:=K9 e hn1 hn2;have hcnt:∀j:Nat,j<L.length->0<=(ai L j free).count/\(ai L j free).count<=4294967295:=fun j hj=>⟨(js (cz hL j hj)).1,(js (cz hL j hj)).2.1⟩
 have hci:∀j:Nat,j<L.length->aL IntKind.i64 ((ai L j free).count+1):=fun j hj=>by have:=hcnt j hj;simp only[aL,b7];omega
 refine⟨⟨aC L k,⟨by omega,by omega,vH⟩,rfl,?_⟩,fun g hg=>⟨fun hgl=>?_,fun hgl=>?_⟩⟩
 ·have hx:L=bF L (aC L k) (aC L k):=Bp;(repeat' apply And.intro)<;>first|with_reducible rfl|exact hx
 ·obtain⟨g0,g1,g2⟩:=hg;have hgl:=UX hgl;have hgn:g.toNat<L.length:=by omega
  have hgz:(bF L (aC L k) g).length=L.length:=kV;have hO:dK L k g=ai L g.toNat free:=by unfold dK;rw[fG (by omega) (by omega),CU (by omega)]
  refine⟨rfl,rfl,fun hk0=>?_,fun hk0=>⟨fun hc=>?_,fun hc=>?_⟩⟩
  ·obtain⟨f1,f2⟩:=Dm (o:=ai L g.toNat free) (by rw[<-hO];simpa using hk0)
   have hx:bF L (aC L k) g=bF L (aC L k) (g+1):=(AY (by omega) f1).symm
   refine⟨rfl,hr _ (by omega) (by omega),g+1,⟨by omega,by omega,nt g2 f2⟩,by omega,rfl,?_⟩
   (repeat' apply And.intro)<;>first|with_reducible rfl|exact hx
  ·rw[hO]at hk0 hc;obtain⟨f1,f2⟩:=JE (o:=ai L g.toNat free) (by simpa using hk0) (by have:=UX hc;omega)
   have hp:=(jV (L:=bF L (aC L k) g) (i:=g) (by omega) (by omega) (hgz▸zH (cz hL g.toNat hgn))).1
   have hx:bO (bF L (aC L k) g) g (Obj.mk 3 (dK L k g).count free.calls free.slots free.bytes)=bF L (aC L k) (g+1):=by rw[hO];exact hp.trans (Dv (by omega) (by omega) g0 f1)
   refine⟨rfl,rfl,hr _ (by omega) (by omega),g+1,⟨by omega,by omega,nt g2 f2⟩,by omega,rfl,?_⟩
   (repeat' apply And.intro)<;>first|with_reducible rfl|exact hx
  ·rw[hO]at hk0 hc;have hc:=UW hc;have:=hcnt _ hgn;obtain⟨f1,f2⟩:=Jx (o:=ai L g.toNat free) (by simpa using hk0) (by omega)
   obtain⟨i1,i2,i3,i4,i5,i6,i7,i8⟩:=Oz hL e hkd g0 hgl g2 f2;have hcg:aL IntKind.i64 ((dK L k g).count+1):=by rw[hO];exact hci _ hgn
   refine⟨hcg,rfl,hcg,rfl,hr _ (by omega) (by omega),rfl,fun hc2=>nD (Bw h0 (.inr (by rw[i1];simp only[Bool.not_eq_true',decide_eq_false_iff_not]at hc2;omega))) (by omega),fun hc2=>⟨rfl,rfl,fun r1=>⟨⟨aC L k,⟨by omega,by omega,DD (by omega)⟩,rfl,?_⟩,fun j hj=>⟨fun hjl=>?_,fun hjl=>?_⟩⟩⟩⟩
   ·(repeat' apply And.intro)<;>first|with_reducible rfl|exact hx
   ·obtain⟨j0,j1,j2⟩:=hj;have hjl:=UX hjl;have hgj:az (oh L k g) j=ai (dq L k) j.toNat free:=by rw[i3];exact fG (by omega) (by omega)
    rw[hgj];have hkk:=js (cz i5 j.toNat (by omega))
    refine⟨rfl,rfl,hr _ (by omega) (by omega),rfl,fun hb=>⟨rfl,?_⟩,fun hb=>⟨rfl,hr _ (by omega) (by omega),j+1,⟨by omega,by omega,?_⟩,by omega,rfl,?_⟩⟩
    ·simp only[Bool.not_eq_true',Bool.or_eq_false_iff,decide_eq_false_iff_not]at hb;have hbz:lI (ai (dq L k) j.toNat free)=true:=by unfold lI;simp only[Bool.or_eq_true,UT];omega
     exact nD (He h0 (I4 (by omega) (by omega) (by omega) (by omega) hbz)) (by omega)
    ·simp only[Bool.not_eq_false',Bool.or_eq_true,UT]at hb;by_cases hjn:j<=aE L k-n
     ·exact DD (by omega)
     ·have hbz:lI (ai (dq L k) j.toNat free)=false:=by unfold lI;simp only[Bool.or_eq_false_iff,decide_eq_false_iff_not];omega
      rw[MX (by omega) hbz];exact j2
    ·(repeat' apply And.intro)<;>first|with_reducible rfl|exact hx
   ·obtain⟨j0,j1,j2⟩:=hj;have hjl:=UW hjl;have:j=aE L k+1:=by omega
    subst this;simp only[Bool.not_eq_false',UT]at hc2;have hE:=L9 h0 (by rw[i1];omega) (by rw[i1];omega) j2
    obtain⟨l1,l2,l3,l4⟩:=LF hL e hkd e2 g0 hgl g2 f2 hE;rw[l1];have hul:(cB L (bg L k n)).length<=L.length:=Lq;have hu:dJ (ar (cB L (bg L k n)))=((cB L (bg L k n)).length:Int):=rfl
    refine⟨rfl,rfl,hr _ (by omega) (by omega),hr _ (by omega) (by omega),rfl,rfl,rfl,rfl,rfl,hr _ (by omega) (by omega),rfl,rfl,rfl,(show L.length<=1000 by omega),fun hno=>?_,fun _=>⟨⟨0,⟨by omega,by omega⟩,rfl,rfl,?_⟩,fun t ht=>⟨fun htl=>?_,fun htl=>⟨⟨l4,hE.symm⟩,M9 l3 l2 ?_⟩⟩⟩⟩
    ·rw[Ji l3 (by omega)]at hno;exact absurd hno (by decide)
    ·have hx:L=kD L (bg L k n) 0:=rfl;(repeat' apply And.intro)<;>first|with_reducible rfl|exact hx
    ·obtain⟨t0,t1⟩:=ht;have htl:=UX htl;rw[hu]at htl;have hx:bO (kD L (bg L k n) t) (ai (cB L (bg L k n)) t.toNat 0) (az (bg L k n) (ai (cB L (bg L k n)) t.toNat 0))=kD L (bg L k n) (t+1):=Gw t0;refine⟨⟨t0,htl⟩,(show t.toNat<(cB L (bg L k n)).length by omega),rfl,hr _ (by omega) (by omega),t+1,⟨by omega,by omega⟩,by rw[hu];omega,rfl,rfl,?_⟩
     (repeat' apply And.intro)<;>first|with_reducible rfl|exact hx
    ·have htl:=UW htl;rw[hu]at htl;obtain⟨t0,t1⟩:=ht;omega
 ·obtain⟨g0,g1,g2⟩:=hg;have hgl:=UW hgl;have:g=aE L k+1:=by omega
  subst this;obtain⟨m1,m2,m3⟩:=GR 1 g2;exact⟨rfl,nD (Bw h0 (.inl (by unfold e9;rw[m1];omega))) (by omega)⟩
theorem ER (L:List Sx.Obj) (k:Key) (n:Int) (hL:an L):aj Tryz.prog 169 [.lp 0 0,.key k,.it .i64 n] [.store tS eS L] (yZ (.tp [.key (bW L k n),.it .i64 (bS L k n)]) (bg L k n)) (fun _ _=>False):=
 aJ (inl:=(fun f=>f==214||f==213||f==218||f==219||f==220||f==221||f==222||f==223||f==1000000+232)) (ann:=(kW [(3000+232,1,TU [0,1] (fun g=> [(3,.it .i64 g)]) 11 (fun g=> .store tS eS (bF L (aC L k) g)) (gT L k) (Ai (aE L k) 1)),(9000+232,1,SX [0,1] (fun g=> [(3,.it .i64 g)]) (nw L k n) (Ai (aE L k) 1)),(169,16,TU [0,6,7,9,10,90,91] (fun g=> [(92,.it .i64 g)]) 0 (fun g=> .store tS eS (kD L (bg L k n) g)) (pB L (bg L k n)) (dJ (ar (cB L (bg L k n)))))])) (ab aW (ab bj (ab ez (ab p6 aq)))) (aB bY (aB se (aB CI ay))) (cN fI) (FV L k n hL) (by kernel_rfl)
theorem EW:p5 Tryz.prog 169 Hh:=
 lg (m:=fun x=>SJ.cn x 0) (nU G6 (fun _=>rfl)) (fun _=>rfl) (fun _ _=>rfl) (fun x=>aJ (inl:=(fun f=>f==214||f==213||f==218||f==219||f==220||f==221||f==222||f==223||f==1000000+232)) (ann:=aQ) (ab aW (ab bj (ab ez (ab p6 aq)))) (aB bY (aB se (aB CI ay))) (cN fI) (CW x.1 x.2.1) (by kernel_rfl)) (fun x=>aJ (inl:=(fun f=>f==214||f==213||f==218||f==219||f==220||f==221||f==222||f==223||f==1000000+232)) (ann:=aQ) (ab aW (ab bj (ab ez (ab p6 aq)))) (aB bY (aB se (aB CI ay))) (cN fI) (Cl x.1 x.2.1) (by kernel_rfl)) fun L x hL _ _=>ER L x.1 x.2.1 hL
end Go.Proofs.YtlblcfaclmpekaaGreat
