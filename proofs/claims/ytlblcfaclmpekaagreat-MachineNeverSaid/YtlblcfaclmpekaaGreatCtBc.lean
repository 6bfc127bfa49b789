import Derived.Test.YtlblcfaclmpekaaGreatCB
import Derived.Test.YtlblcfaclmpekaaGreatCQ
set_option linter.unusedSimpArgs false
set_option linter.unusedVariables false
namespace Go.Proofs.YtlblcfaclmpekaaGreat
open Go.Sx
set_option maxRecDepth 100000
theorem D3 (k:Key) (n:Int):
 true=true/\true=true/\((!decide (0<ah []))=true->void=ca [] k n/\1=b7 [] k n)/\((!decide (0<ah []))=false->true=true/\((!(aI [] k&&decide (k.kind=4)))=
  true->void=ca [] k n/\190=b7 [] k n)/\((!(aI [] k&&decide (k.kind=4)))=false->true=true/\((!(decide (((aa [] k).slots.at 0).kind=1)&&decide (((aa [] k).slots.at
  1).kind=1)&&decide (0<=((aa [] k).slots.at 0).value)&&decide (((aa [] k).slots.at 0).value<=((aa [] k).slots.at 1).value)&&decide (((aa [] k).slots.at 1).value<ah [])))
  =true->void=ca [] k n/\220=b7 [] k n)/\((!(decide (((aa [] k).slots.at 0).kind=1)&&decide (((aa [] k).slots.at 1).kind=1)&&decide (0<=((aa [] k).slots.at 0).value)&&
  decide (((aa [] k).slots.at 0).value<=((aa [] k).slots.at 1).value)&&decide (((aa [] k).slots.at 1).value<ah [])))=false->(decide (1<=n)=true->aL IntKind.i64 (((aa []
  k).slots.at 1).value-((aa [] k).slots.at 0).value))/\true=true/\((!(decide (1<=n)&&decide (n<=((aa [] k).slots.at 1).value-((aa [] k).slots.at 0).value)))=true->void=ca
  [] k n/\4=b7 [] k n)/\((!(decide (1<=n)&&decide (n<=((aa [] k).slots.at 1).value-((aa [] k).slots.at 0).value)))=false->true=true/\true=true/\true=true/\((!decide (0<
  ah []))=true->void=ca [] k n/\1=b7 [] k n)/\((!decide (0<ah []))=false->true=true/\((!(aI [] k&&decide (k.kind=4)))=true->void=ca [] k n/\190=b7 [] k
  n)/\((!(aI [] k&&decide (k.kind=4)))=false->true=true/\((!(decide (((aa [] k).slots.at 0).kind=1)&&decide (((aa [] k).slots.at 1).kind=1)&&decide (0<=((aa []
  k).slots.at 0).value)&&decide (((aa [] k).slots.at 0).value<=((aa [] k).slots.at 1).value)&&decide (((aa [] k).slots.at 1).value<ah [])))=true->void=ca [] k n/\220=
  b7 [] k n)/\((!(decide (((aa [] k).slots.at 0).kind=1)&&decide (((aa [] k).slots.at 1).kind=1)&&decide (0<=((aa [] k).slots.at 0).value)&&decide (((aa [] k).slots.at
  0).value<=((aa [] k).slots.at 1).value)&&decide (((aa [] k).slots.at 1).value<ah [])))=false->true=true/\true=true/\true=true/\∀(r0:Loop),False))))))):=by
 exact⟨rfl,rfl,fun h=>(n9 (sH (FK h) (by omega)) (by omega)).1,fun h=>absurd h (by decide)⟩
theorem Ed (k:Key) (n:Int):
 true=true/\true=true/\((!decide (0<ah []))=true->void=ca [] k n/\1=b7 [] k n)/\((!decide (0<ah []))=false->true=true/\((!(aI [] k&&decide (k.kind=4)))=
  true->void=ca [] k n/\190=b7 [] k n)/\((!(aI [] k&&decide (k.kind=4)))=false->true=true/\((!(decide (((aa [] k).slots.at 0).kind=1)&&decide (((aa [] k).slots.at
  1).kind=1)&&decide (0<=((aa [] k).slots.at 0).value)&&decide (((aa [] k).slots.at 0).value<=((aa [] k).slots.at 1).value)&&decide (((aa [] k).slots.at 1).value<ah [])))
  =true->void=ca [] k n/\220=b7 [] k n)/\((!(decide (((aa [] k).slots.at 0).kind=1)&&decide (((aa [] k).slots.at 1).kind=1)&&decide (0<=((aa [] k).slots.at 0).value)&&
  decide (((aa [] k).slots.at 0).value<=((aa [] k).slots.at 1).value)&&decide (((aa [] k).slots.at 1).value<ah [])))=false->(decide (1<=n)=true->aL IntKind.i64 (((aa []
  k).slots.at 1).value-((aa [] k).slots.at 0).value))/\true=true/\((!(decide (1<=n)&&decide (n<=((aa [] k).slots.at 1).value-((aa [] k).slots.at 0).value)))=true->void=ca
  [] k n/\4=b7 [] k n)/\((!(decide (1<=n)&&decide (n<=((aa [] k).slots.at 1).value-((aa [] k).slots.at 0).value)))=false->true=true/\False)))):=by
 exact⟨rfl,rfl,fun h=>(n9 (sH (FK h) (by omega)) (by omega)).1,fun h=>absurd h (by decide)⟩
theorem Ha (L:List Sx.Obj) (k:Key) (n:Int) (hL:aq L):
 true=true/\true=true/\((!decide (0<ah L))=true->(void=ca L k n/\1=b7 L k n)/\L=bj L k n)/\((!decide (0<ah L))=false->true=true/\((!(aI L k&&decide
  (k.kind=4)))=true->(void=ca L k n/\190=b7 L k n)/\L=bj L k n)/\((!(aI L k&&decide (k.kind=4)))=false->true=true/\((!(decide (((aa L k).slots.at 0).kind=1)&&
  decide (((aa L k).slots.at 1).kind=1)&&decide (0<=((aa L k).slots.at 0).value)&&decide (((aa L k).slots.at 0).value<=((aa L k).slots.at 1).value)&&decide (((aa L
  k).slots.at 1).value<ah L)))=true->(void=ca L k n/\220=b7 L k n)/\L=bj L k n)/\((!(decide (((aa L k).slots.at 0).kind=1)&&decide (((aa L k).slots.at 1).kind=1)
  &&decide (0<=((aa L k).slots.at 0).value)&&decide (((aa L k).slots.at 0).value<=((aa L k).slots.at 1).value)&&decide (((aa L k).slots.at 1).value<ah L)))=false->(decide
  (1<=n)=true->aL IntKind.i64 (((aa L k).slots.at 1).value-((aa L k).slots.at 0).value))/\true=true/\((!(decide (1<=n)&&decide (n<=((aa L k).slots.at 1).value-((aa L
  k).slots.at 0).value)))=true->(void=ca L k n/\4=b7 L k n)/\L=bj L k n)/\((!(decide (1<=n)&&decide (n<=((aa L k).slots.at 1).value-((aa L k).slots.at 0).value)))=
  false->true=true/\(ak L).le 1000/\(aP L=true->true=true/\true=true/\((!decide (0<ah []))=true->(void=ca L k n/\1=b7 L k n)/\L=bj L k n)/\((!decide (0<
  ah []))=false->true=true/\((!(aI [] k&&decide (k.kind=4)))=true->(void=ca L k n/\190=b7 L k n)/\L=bj L k n)/\((!(aI [] k&&decide (k.kind=4)))=false->true=
  true/\((!(decide (((aa [] k).slots.at 0).kind=1)&&decide (((aa [] k).slots.at 1).kind=1)&&decide (0<=((aa [] k).slots.at 0).value)&&decide (((aa [] k).slots.at 0).value<=
  ((aa [] k).slots.at 1).value)&&decide (((aa [] k).slots.at 1).value<ah [])))=true->(void=ca L k n/\220=b7 L k n)/\L=bj L k n)/\((!(decide (((aa [] k).slots.at
  0).kind=1)&&decide (((aa [] k).slots.at 1).kind=1)&&decide (0<=((aa [] k).slots.at 0).value)&&decide (((aa [] k).slots.at 0).value<=((aa [] k).slots.at 1).value)&&decide
  (((aa [] k).slots.at 1).value<ah [])))=false->true=true/\true=true/\true=true/\∀(r0:Loop),(∃g,iw L k g/\False)/\∀(g:Int),iw L k g->(decide (g<=((aa []
  k).slots.at 1).value)=true->r0=r0/\r0=r0/\((!decide ((au [] g).kind=0))=true->r0=r0/\aL IntKind.i64 (g+1)/\∃g',iw L k g'/\(aE L k+1-g').toNat<(aE L k+1
  -g).toNat/\g+1=g'/\L=L/\k=k/\n=n/\void=void/\k=k/\aa L k=aa L k/\k.oid=k.oid/\((aa L k).slots.at 0).value=((aa L k).slots.at 0).value/\((aa L
  k).slots.at 1).value=((aa L k).slots.at 1).value/\aa L k=aa L k/\(aa L k).slots.at 0=(aa L k).slots.at 0/\(aa L k).slots.at 1=(aa L k).slots.at 1/\aa L k=
  aa L k/\k.oid=k.oid/\((aa L k).slots.at 0).value=((aa L k).slots.at 0).value/\((aa L k).slots.at 1).value=((aa L k).slots.at 1).value/\bI L (aB L k) g=bI L
  (aB L k) g'/\aa [] k=aa [] k/\Value.pointer none=Value.pointer none/\k.oid=k.oid/\((aa [] k).slots.at 0).value=((aa [] k).slots.at 0).value/\((aa [] k).slots.at
  1).value=((aa [] k).slots.at 1).value/\aa [] k=aa [] k/\(aa [] k).slots.at 0=(aa [] k).slots.at 0/\(aa [] k).slots.at 1=(aa [] k).slots.at 1/\aa [] k=
  aa [] k/\Value.pointer none=Value.pointer none/\k.oid=k.oid/\((aa [] k).slots.at 0).value=((aa [] k).slots.at 0).value/\((aa [] k).slots.at 1).value=((aa [] k).slots.at
  1).value/\aa [] k=aa [] k/\Value.pointer none=Value.pointer none/\k.oid=k.oid/\((aa [] k).slots.at 0).value=((aa [] k).slots.at 0).value/\((aa [] k).slots.at 1).value=
  ((aa [] k).slots.at 1).value/\void=void/\false=false/\aa [] k=aa [] k/\Value.pointer none=Value.pointer none/\k.oid=k.oid/\((aa [] k).slots.at 0).value=((aa []
  k).slots.at 0).value/\((aa [] k).slots.at 1).value=((aa [] k).slots.at 1).value/\r0=r0)/\((!decide ((au [] g).kind=0))=false->(decide ((au [] g).count=4294967295)=true->
  true=true/\r0=r0/\aL IntKind.i64 (g+1)/\∃g',iw L k g'/\(aE L k+1-g').toNat<(aE L k+1-g).toNat/\g+1=g'/\L=L/\k=k/\n=n/\void=void/\k=k/\aa L
  k=aa L k/\k.oid=k.oid/\((aa L k).slots.at 0).value=((aa L k).slots.at 0).value/\((aa L k).slots.at 1).value=((aa L k).slots.at 1).value/\aa L k=aa L k/\
  (aa L k).slots.at 0=(aa L k).slots.at 0/\(aa L k).slots.at 1=(aa L k).slots.at 1/\aa L k=aa L k/\k.oid=k.oid/\((aa L k).slots.at 0).value=((aa L
  k).slots.at 0).value/\((aa L k).slots.at 1).value=((aa L k).slots.at 1).value/\bI L (aB L k) g=bI L (aB L k) g'/\aa [] k=aa [] k/\Value.pointer none=
  Value.pointer none/\k.oid=k.oid/\((aa [] k).slots.at 0).value=((aa [] k).slots.at 0).value/\((aa [] k).slots.at 1).value=((aa [] k).slots.at 1).value/\aa [] k=aa []
  k/\(aa [] k).slots.at 0=(aa [] k).slots.at 0/\(aa [] k).slots.at 1=(aa [] k).slots.at 1/\aa [] k=aa [] k/\Value.pointer none=Value.pointer none/\k.oid=k.oid/\
  ((aa [] k).slots.at 0).value=((aa [] k).slots.at 0).value/\((aa [] k).slots.at 1).value=((aa [] k).slots.at 1).value/\aa [] k=aa [] k/\Value.pointer none=
  Value.pointer none/\k.oid=k.oid/\((aa [] k).slots.at 0).value=((aa [] k).slots.at 0).value/\((aa [] k).slots.at 1).value=((aa [] k).slots.at 1).value/\void=void/\false=
  false/\aa [] k=aa [] k/\Value.pointer none=Value.pointer none/\k.oid=k.oid/\((aa [] k).slots.at 0).value=((aa [] k).slots.at 0).value/\((aa [] k).slots.at 1).value=
  ((aa [] k).slots.at 1).value/\r0=r0)/\(decide ((au [] g).count=4294967295)=false->aL IntKind.i64 ((au [] g).count+1)/\true=true/\aL IntKind.i64 ((au [] g).count+1)/\
  r0=r0/\aL IntKind.i64 (((aa [] k).slots.at 1).value-n)/\true=true/\((!decide ((bZ 1 g ((au [] g).count+1)).oid<=((aa [] k).slots.at 1).value-n))=true->(void=ca L
  k n/\221=b7 L k n)/\L=bj L k n)/\((!decide ((bZ 1 g ((au [] g).count+1)).oid<=((aa [] k).slots.at 1).value-n))=false->true=true/\true=true/\∀(r0:Loop),(∃g_1,
  nW L k n g_1/\((aa [] k).slots.at 0).value=g_1/\L=L/\k=k/\n=n/\void=void/\k=k/\aa L k=aa L k/\k.oid=k.oid/\((aa L k).slots.at 0).value=((aa L
  k).slots.at 0).value/\((aa L k).slots.at 1).value=((aa L k).slots.at 1).value/\aa L k=aa L k/\(aa L k).slots.at 0=(aa L k).slots.at 0/\(aa L k).slots.at 1=
  (aa L k).slots.at 1/\aa L k=aa L k/\k.oid=k.oid/\((aa L k).slots.at 0).value=((aa L k).slots.at 0).value/\((aa L k).slots.at 1).value=((aa L k).slots.at 1).value
  /\bI L (aB L k) g=bI L (aB L k) g/\aa [] k=aa [] k/\Value.pointer none=Value.pointer none/\k.oid=k.oid/\((aa [] k).slots.at 0).value=((aa [] k).slots.at
  0).value/\((aa [] k).slots.at 1).value=((aa [] k).slots.at 1).value/\aa [] k=aa [] k/\(aa [] k).slots.at 0=(aa [] k).slots.at 0/\(aa [] k).slots.at 1=(aa []
  k).slots.at 1/\aa [] k=aa [] k/\Value.pointer none=Value.pointer none/\k.oid=k.oid/\((aa [] k).slots.at 0).value=((aa [] k).slots.at 0).value/\((aa [] k).slots.at
  1).value=((aa [] k).slots.at 1).value/\aa [] k=aa [] k/\Value.pointer none=Value.pointer none/\k.oid=k.oid/\((aa [] k).slots.at 0).value=((aa [] k).slots.at 0).value/\
  ((aa [] k).slots.at 1).value=((aa [] k).slots.at 1).value/\bZ 1 g ((au [] g).count+1)=bZ 1 g ((au [] g).count+1)/\true=true/\aa [] k=aa [] k/\Value.pointer
  none=Value.pointer none/\k.oid=k.oid/\((aa [] k).slots.at 0).value=((aa [] k).slots.at 0).value/\((aa [] k).slots.at 1).value=((aa [] k).slots.at 1).value/\au [] g=
  au [] g/\au [] g=au [] g/\bZ 1 g ((au [] g).count+1)=bZ 1 g ((au [] g).count+1)/\aa [] k=aa [] k/\Value.pointer none=Value.pointer none/\k.oid=k.oid/\
  ((aa [] k).slots.at 0).value=((aa [] k).slots.at 0).value/\((aa [] k).slots.at 1).value=((aa [] k).slots.at 1).value/\r0=r0)/\∀(g_1:Int),nW L k n g_1->(decide (g_1<=
  ((aa [] k).slots.at 1).value)=true->r0=r0/\r0=r0/\aL IntKind.i64 (((aa [] k).slots.at 1).value-n)/\true=true/\((!(decide (g_1<=((aa [] k).slots.at 1).value-n)||decide
  ((au [] g_1).kind=0)||decide ((au [] g_1).kind=3)))=true->r0=r0/\(void=ca L k n/\221=b7 L k n)/\L=bj L k n)/\((!(decide (g_1<=((aa [] k).slots.at 1).value-n)
  ||decide ((au [] g_1).kind=0)||decide ((au [] g_1).kind=3)))=false->r0=r0/\aL IntKind.i64 (g_1+1)/\∃g',nW L k n g'/\(aE L k+1-g').toNat<(aE L k+1-
  g_1).toNat/\g_1+1=g'/\L=L/\k=k/\n=n/\void=void/\k=k/\aa L k=aa L k/\k.oid=k.oid/\((aa L k).slots.at 0).value=((aa L k).slots.at 0).value/\((aa L
  k).slots.at 1).value=((aa L k).slots.at 1).value/\aa L k=aa L k/\(aa L k).slots.at 0=(aa L k).slots.at 0/\(aa L k).slots.at 1=(aa L k).slots.at 1/\aa L k=
  aa L k/\k.oid=k.oid/\((aa L k).slots.at 0).value=((aa L k).slots.at 0).value/\((aa L k).slots.at 1).value=((aa L k).slots.at 1).value/\bI L (aB L k) g=bI L
  (aB L k) g/\aa [] k=aa [] k/\Value.pointer none=Value.pointer none/\k.oid=k.oid/\((aa [] k).slots.at 0).value=((aa [] k).slots.at 0).value/\((aa [] k).slots.at
  1).value=((aa [] k).slots.at 1).value/\aa [] k=aa [] k/\(aa [] k).slots.at 0=(aa [] k).slots.at 0/\(aa [] k).slots.at 1=(aa [] k).slots.at 1/\aa [] k=
  aa [] k/\Value.pointer none=Value.pointer none/\k.oid=k.oid/\((aa [] k).slots.at 0).value=((aa [] k).slots.at 0).value/\((aa [] k).slots.at 1).value=((aa [] k).slots.at
  1).value/\aa [] k=aa [] k/\Value.pointer none=Value.pointer none/\k.oid=k.oid/\((aa [] k).slots.at 0).value=((aa [] k).slots.at 0).value/\((aa [] k).slots.at 1).value=
  ((aa [] k).slots.at 1).value/\bZ 1 g ((au [] g).count+1)=bZ 1 g ((au [] g).count+1)/\true=true/\aa [] k=aa [] k/\Value.pointer none=Value.pointer none/\k.oid
  =k.oid/\((aa [] k).slots.at 0).value=((aa [] k).slots.at 0).value/\((aa [] k).slots.at 1).value=((aa [] k).slots.at 1).value/\au [] g=au [] g/\au [] g=au [] g/\
  bZ 1 g ((au [] g).count+1)=bZ 1 g ((au [] g).count+1)/\aa [] k=aa [] k/\Value.pointer none=Value.pointer none/\k.oid=k.oid/\((aa [] k).slots.at 0).value=
  ((aa [] k).slots.at 0).value/\((aa [] k).slots.at 1).value=((aa [] k).slots.at 1).value/\r0=r0))/\(decide (g_1<=((aa [] k).slots.at 1).value)=false->true=true/\true=true
  /\aL IntKind.i64 (((aa [] k).slots.at 1).value-n)/\aL IntKind.i64 (((aa [] k).slots.at 1).value-n+1)/\true=true/\true=true/\true=true/\true=true/\true=true/\aL
  IntKind.i64 (((aa [] k).slots.at 1).value-n)/\true=true/\true=true/\true=true/\False)))))/\(decide (g<=((aa [] k).slots.at 1).value)=false->true=true/\(void=ca L k n/\
  221=b7 L k n)/\L=bj L k n)))))/\(aP L=false->true=true/\true=true/\((!decide (0<ah L))=true->(void=ca L k n/\1=b7 L k n)/\L=bj L k n)/\((!decide (0
  <ah L))=false->true=true/\((!(aI L k&&decide (k.kind=4)))=true->(void=ca L k n/\190=b7 L k n)/\L=bj L k n)/\((!(aI L k&&decide (k.kind=4)))=false->true=
  true/\((!(decide (((aa L k).slots.at 0).kind=1)&&decide (((aa L k).slots.at 1).kind=1)&&decide (0<=((aa L k).slots.at 0).value)&&decide (((aa L k).slots.at 0).value<=
  ((aa L k).slots.at 1).value)&&decide (((aa L k).slots.at 1).value<ah L)))=true->(void=ca L k n/\220=b7 L k n)/\L=bj L k n)/\((!(decide (((aa L k).slots.at
  0).kind=1)&&decide (((aa L k).slots.at 1).kind=1)&&decide (0<=((aa L k).slots.at 0).value)&&decide (((aa L k).slots.at 0).value<=((aa L k).slots.at 1).value)&&decide
  (((aa L k).slots.at 1).value<ah L)))=false->true=true/\true=true/\true=true/\∀(r0:Loop),(∃g,iw L k g/\((aa L k).slots.at 0).value=g/\L=L/\k=k/\n=n/\
  void=void/\k=k/\aa L k=aa L k/\k.oid=k.oid/\((aa L k).slots.at 0).value=((aa L k).slots.at 0).value/\((aa L k).slots.at 1).value=((aa L k).slots.at 1).value/\
  aa L k=aa L k/\(aa L k).slots.at 0=(aa L k).slots.at 0/\(aa L k).slots.at 1=(aa L k).slots.at 1/\aa L k=aa L k/\k.oid=k.oid/\((aa L k).slots.at
  0).value=((aa L k).slots.at 0).value/\((aa L k).slots.at 1).value=((aa L k).slots.at 1).value/\L=bI L (aB L k) g/\k=k/\aa L k=aa L k/\k.oid=k.oid/\((aa
  L k).slots.at 0).value=((aa L k).slots.at 0).value/\((aa L k).slots.at 1).value=((aa L k).slots.at 1).value/\aa L k=aa L k/\(aa L k).slots.at 0=(aa L k).slots.at
  0/\(aa L k).slots.at 1=(aa L k).slots.at 1/\aa L k=aa L k/\k.oid=k.oid/\((aa L k).slots.at 0).value=((aa L k).slots.at 0).value/\((aa L k).slots.at 1).value=
  ((aa L k).slots.at 1).value/\aa L k=aa L k/\k.oid=k.oid/\((aa L k).slots.at 0).value=((aa L k).slots.at 0).value/\((aa L k).slots.at 1).value=((aa L k).slots.at
  1).value/\void=void/\false=false/\aa L k=aa L k/\k.oid=k.oid/\((aa L k).slots.at 0).value=((aa L k).slots.at 0).value/\((aa L k).slots.at 1).value=((aa L
  k).slots.at 1).value/\r0=r0)/\∀(g:Int),iw L k g->(decide (g<=((aa L k).slots.at 1).value)=true->r0=r0/\r0=r0/\((!decide ((dR L k g).kind=0))=true->r0=r0/\aL
  IntKind.i64 (g+1)/\∃g',iw L k g'/\(aE L k+1-g').toNat<(aE L k+1-g).toNat/\g+1=g'/\L=L/\k=k/\n=n/\void=void/\k=k/\aa L k=aa L k/\k.oid=
  k.oid/\((aa L k).slots.at 0).value=((aa L k).slots.at 0).value/\((aa L k).slots.at 1).value=((aa L k).slots.at 1).value/\aa L k=aa L k/\(aa L k).slots.at 0=
  (aa L k).slots.at 0/\(aa L k).slots.at 1=(aa L k).slots.at 1/\aa L k=aa L k/\k.oid=k.oid/\((aa L k).slots.at 0).value=((aa L k).slots.at 0).value/\((aa L
  k).slots.at 1).value=((aa L k).slots.at 1).value/\bI L (aB L k) g=bI L (aB L k) g'/\k=k/\aa L k=aa L k/\k.oid=k.oid/\((aa L k).slots.at 0).value=((aa
  L k).slots.at 0).value/\((aa L k).slots.at 1).value=((aa L k).slots.at 1).value/\aa L k=aa L k/\(aa L k).slots.at 0=(aa L k).slots.at 0/\(aa L k).slots.at 1=
  (aa L k).slots.at 1/\aa L k=aa L k/\k.oid=k.oid/\((aa L k).slots.at 0).value=((aa L k).slots.at 0).value/\((aa L k).slots.at 1).value=((aa L k).slots.at 1).value
  /\aa L k=aa L k/\k.oid=k.oid/\((aa L k).slots.at 0).value=((aa L k).slots.at 0).value/\((aa L k).slots.at 1).value=((aa L k).slots.at 1).value/\void=void/\false=
  false/\aa L k=aa L k/\k.oid=k.oid/\((aa L k).slots.at 0).value=((aa L k).slots.at 0).value/\((aa L k).slots.at 1).value=((aa L k).slots.at 1).value/\r0=r0)/\
  ((!decide ((dR L k g).kind=0))=false->(decide ((dR L k g).count=4294967295)=true->true=true/\r0=r0/\aL IntKind.i64 (g+1)/\∃g',iw L k g'/\(aE L k+1-g').toNat<
  (aE L k+1-g).toNat/\g+1=g'/\L=L/\k=k/\n=n/\void=void/\k=k/\aa L k=aa L k/\k.oid=k.oid/\((aa L k).slots.at 0).value=((aa L k).slots.at 0).value/\
  ((aa L k).slots.at 1).value=((aa L k).slots.at 1).value/\aa L k=aa L k/\(aa L k).slots.at 0=(aa L k).slots.at 0/\(aa L k).slots.at 1=(aa L k).slots.at 1/\
  aa L k=aa L k/\k.oid=k.oid/\((aa L k).slots.at 0).value=((aa L k).slots.at 0).value/\((aa L k).slots.at 1).value=((aa L k).slots.at 1).value/\bN (bI L (aB
  L k) g) g (Obj.mk 3 (dR L k g).count free.calls free.slots free.bytes)=bI L (aB L k) g'/\k=k/\aa L k=aa L k/\k.oid=k.oid/\((aa L k).slots.at 0).value=((aa L
  k).slots.at 0).value/\((aa L k).slots.at 1).value=((aa L k).slots.at 1).value/\aa L k=aa L k/\(aa L k).slots.at 0=(aa L k).slots.at 0/\(aa L k).slots.at 1=
  (aa L k).slots.at 1/\aa L k=aa L k/\k.oid=k.oid/\((aa L k).slots.at 0).value=((aa L k).slots.at 0).value/\((aa L k).slots.at 1).value=((aa L k).slots.at 1).value
  /\aa L k=aa L k/\k.oid=k.oid/\((aa L k).slots.at 0).value=((aa L k).slots.at 0).value/\((aa L k).slots.at 1).value=((aa L k).slots.at 1).value/\void=void/\false=
  false/\aa L k=aa L k/\k.oid=k.oid/\((aa L k).slots.at 0).value=((aa L k).slots.at 0).value/\((aa L k).slots.at 1).value=((aa L k).slots.at 1).value/\r0=r0)/\
  (decide ((dR L k g).count=4294967295)=false->aL IntKind.i64 ((dR L k g).count+1)/\true=true/\aL IntKind.i64 ((dR L k g).count+1)/\r0=r0/\aL IntKind.i64 (((aa L
  k).slots.at 1).value-n)/\true=true/\((!decide (g<=((aa L k).slots.at 1).value-n))=true->(void=ca L k n/\221=b7 L k n)/\L=bj L k n)/\((!decide (g<=((aa L
  k).slots.at 1).value-n))=false->true=true/\true=true/\∀(r0:Loop),(∃g_1,nW L k n g_1/\((aa L k).slots.at 0).value=g_1/\L=L/\k=k/\n=n/\void=void/\k=k/\aa
  L k=aa L k/\k.oid=k.oid/\((aa L k).slots.at 0).value=((aa L k).slots.at 0).value/\((aa L k).slots.at 1).value=((aa L k).slots.at 1).value/\aa L k=aa L k/\
  (aa L k).slots.at 0=(aa L k).slots.at 0/\(aa L k).slots.at 1=(aa L k).slots.at 1/\aa L k=aa L k/\k.oid=k.oid/\((aa L k).slots.at 0).value=((aa L
  k).slots.at 0).value/\((aa L k).slots.at 1).value=((aa L k).slots.at 1).value/\oT L k g=oT L k g/\k=k/\aa L k=aa L k/\k.oid=k.oid/\((aa L k).slots.at 0).value=
  ((aa L k).slots.at 0).value/\((aa L k).slots.at 1).value=((aa L k).slots.at 1).value/\aa L k=aa L k/\(aa L k).slots.at 0=(aa L k).slots.at 0/\(aa L k).slots.at
  1=(aa L k).slots.at 1/\aa L k=aa L k/\k.oid=k.oid/\((aa L k).slots.at 0).value=((aa L k).slots.at 0).value/\((aa L k).slots.at 1).value=((aa L k).slots.at
  1).value/\aa L k=aa L k/\k.oid=k.oid/\((aa L k).slots.at 0).value=((aa L k).slots.at 0).value/\((aa L k).slots.at 1).value=((aa L k).slots.at 1).value/\bZ 1 g
  ((dR L k g).count+1)=bZ 1 g ((dR L k g).count+1)/\true=true/\aa L k=aa L k/\k.oid=k.oid/\((aa L k).slots.at 0).value=((aa L k).slots.at 0).value/\((aa L
  k).slots.at 1).value=((aa L k).slots.at 1).value/\dR L k g=dR L k g/\dR L k g=dR L k g/\bZ 1 g ((dR L k g).count+1)=bZ 1 g ((dR L k g).count+1)/\aa L k=
  aa L k/\k.oid=k.oid/\((aa L k).slots.at 0).value=((aa L k).slots.at 0).value/\((aa L k).slots.at 1).value=((aa L k).slots.at 1).value/\r0=r0)/\∀(g_1:Int),nW L
  k n g_1->(decide (g_1<=((aa L k).slots.at 1).value)=true->r0=r0/\r0=r0/\aL IntKind.i64 (((aa L k).slots.at 1).value-n)/\true=true/\((!(decide (g_1<=((aa L k).slots.at
  1).value-n)||decide ((au (oT L k g) g_1).kind=0)||decide ((au (oT L k g) g_1).kind=3)))=true->r0=r0/\(void=ca L k n/\221=b7 L k n)/\L=bj L k n)/\((!(decide
  (g_1<=((aa L k).slots.at 1).value-n)||decide ((au (oT L k g) g_1).kind=0)||decide ((au (oT L k g) g_1).kind=3)))=false->r0=r0/\aL IntKind.i64 (g_1+1)/\∃g',nW
  L k n g'/\(aE L k+1-g').toNat<(aE L k+1-g_1).toNat/\g_1+1=g'/\L=L/\k=k/\n=n/\void=void/\k=k/\aa L k=aa L k/\k.oid=k.oid/\((aa L k).slots.at
  0).value=((aa L k).slots.at 0).value/\((aa L k).slots.at 1).value=((aa L k).slots.at 1).value/\aa L k=aa L k/\(aa L k).slots.at 0=(aa L k).slots.at 0/\(aa L
  k).slots.at 1=(aa L k).slots.at 1/\aa L k=aa L k/\k.oid=k.oid/\((aa L k).slots.at 0).value=((aa L k).slots.at 0).value/\((aa L k).slots.at 1).value=((aa L
  k).slots.at 1).value/\oT L k g=oT L k g/\k=k/\aa L k=aa L k/\k.oid=k.oid/\((aa L k).slots.at 0).value=((aa L k).slots.at 0).value/\((aa L k).slots.at 1).value=
  ((aa L k).slots.at 1).value/\aa L k=aa L k/\(aa L k).slots.at 0=(aa L k).slots.at 0/\(aa L k).slots.at 1=(aa L k).slots.at 1/\aa L k=aa L k/\k.oid=
  k.oid/\((aa L k).slots.at 0).value=((aa L k).slots.at 0).value/\((aa L k).slots.at 1).value=((aa L k).slots.at 1).value/\aa L k=aa L k/\k.oid=k.oid/\((aa L
  k).slots.at 0).value=((aa L k).slots.at 0).value/\((aa L k).slots.at 1).value=((aa L k).slots.at 1).value/\bZ 1 g ((dR L k g).count+1)=bZ 1 g ((dR L k g).count+1)/\
  true=true/\aa L k=aa L k/\k.oid=k.oid/\((aa L k).slots.at 0).value=((aa L k).slots.at 0).value/\((aa L k).slots.at 1).value=((aa L k).slots.at 1).value/\dR L k
  g=dR L k g/\dR L k g=dR L k g/\bZ 1 g ((dR L k g).count+1)=bZ 1 g ((dR L k g).count+1)/\aa L k=aa L k/\k.oid=k.oid/\((aa L k).slots.at 0).value=
  ((aa L k).slots.at 0).value/\((aa L k).slots.at 1).value=((aa L k).slots.at 1).value/\r0=r0))/\(decide (g_1<=((aa L k).slots.at 1).value)=false->true=true/\true=true/\
  aL IntKind.i64 (((aa L k).slots.at 1).value-n)/\aL IntKind.i64 (((aa L k).slots.at 1).value-n+1)/\true=true/\true=true/\true=true/\true=true/\true=true/\aL
  IntKind.i64 (((aa L k).slots.at 1).value-n)/\true=true/\true=true/\true=true/\(ak L).le 1000/\(iT L (k7 L k n g)=true->(∃g_2,qF L (bj L k n) g_2/\Value.slice
  none 0 0=Value.slice none 0 0/\0=g_2/\L=lf L (bj L k n) g_2/\k=k/\n=n/\void=void/\k=k/\aa L k=aa L k/\k.oid=k.oid/\((aa L k).slots.at 0).value=((aa L
  k).slots.at 0).value/\((aa L k).slots.at 1).value=((aa L k).slots.at 1).value/\aa L k=aa L k/\(aa L k).slots.at 0=(aa L k).slots.at 0/\(aa L k).slots.at 1=
  (aa L k).slots.at 1/\aa L k=aa L k/\k.oid=k.oid/\((aa L k).slots.at 0).value=((aa L k).slots.at 0).value/\((aa L k).slots.at 1).value=((aa L k).slots.at 1).value
  /\k7 L k n g=k7 L k n g/\k=k/\aa L k=aa L k/\k.oid=k.oid/\((aa L k).slots.at 0).value=((aa L k).slots.at 0).value/\((aa L k).slots.at 1).value=((aa L
  k).slots.at 1).value/\aa L k=aa L k/\(aa L k).slots.at 0=(aa L k).slots.at 0/\(aa L k).slots.at 1=(aa L k).slots.at 1/\aa L k=aa L k/\k.oid=k.oid/\
  ((aa L k).slots.at 0).value=((aa L k).slots.at 0).value/\((aa L k).slots.at 1).value=((aa L k).slots.at 1).value/\aa L k=aa L k/\k.oid=k.oid/\((aa L k).slots.at
  0).value=((aa L k).slots.at 0).value/\((aa L k).slots.at 1).value=((aa L k).slots.at 1).value/\bZ 1 g ((dR L k g).count+1)=bZ 1 g ((dR L k g).count+1)/\true=true
  /\aa L k=aa L k/\k.oid=k.oid/\((aa L k).slots.at 0).value=((aa L k).slots.at 0).value/\((aa L k).slots.at 1).value=((aa L k).slots.at 1).value/\dR L k g=dR L k
  g/\dR L k g=dR L k g/\bZ 1 g ((dR L k g).count+1)=bZ 1 g ((dR L k g).count+1)/\aa L k=aa L k/\k.oid=k.oid/\((aa L k).slots.at 0).value=((aa L
  k).slots.at 0).value/\((aa L k).slots.at 1).value=((aa L k).slots.at 1).value/\Aa L k n g=Aa L k n g/\m5 (((aa L k).slots.at 1).value-n+1)=m5 (((aa L k).slots.at
  1).value-n+1)/\m5 ((aa L k).slots.at 1).value=m5 ((aa L k).slots.at 1).value/\z0 L k n g=z0 L k n g/\m5 (((aa L k).slots.at 1).value-n)=m5 (((aa L k).slots.at
  1).value-n))/\∀(g_2:Int),qF L (bj L k n) g_2->(decide (g_2<0)=true->False)/\(decide (g_2<0)=false->(Key.mk 4 g ((dR L k g).count+1) (bZ 1 g ((dR L k g).count+
  1)).call (bZ 1 g ((dR L k g).count+1)).rights (bZ 1 g ((dR L k g).count+1)).value=ca L k n/\0=b7 L k n)/\lf L (bj L k n) g_2=bj L k n))/\(iT L (k7 L k n
  g)=false->(∃g_2,qF L (bj L k n) g_2/\bH (ak (cy L (k7 L k n g)))=bH (ak (cy L (k7 L k n g)))/\0=g_2/\L=lf L (bj L k n) g_2/\k=k/\n=n/\void=void/\k
  =k/\aa L k=aa L k/\k.oid=k.oid/\((aa L k).slots.at 0).value=((aa L k).slots.at 0).value/\((aa L k).slots.at 1).value=((aa L k).slots.at 1).value/\aa L k=
  aa L k/\(aa L k).slots.at 0=(aa L k).slots.at 0/\(aa L k).slots.at 1=(aa L k).slots.at 1/\aa L k=aa L k/\k.oid=k.oid/\((aa L k).slots.at 0).value=((aa
  L k).slots.at 0).value/\((aa L k).slots.at 1).value=((aa L k).slots.at 1).value/\k7 L k n g=k7 L k n g/\k=k/\aa L k=aa L k/\k.oid=k.oid/\((aa L k).slots.at
  0).value=((aa L k).slots.at 0).value/\((aa L k).slots.at 1).value=((aa L k).slots.at 1).value/\aa L k=aa L k/\(aa L k).slots.at 0=(aa L k).slots.at 0/\(aa L
  k).slots.at 1=(aa L k).slots.at 1/\aa L k=aa L k/\k.oid=k.oid/\((aa L k).slots.at 0).value=((aa L k).slots.at 0).value/\((aa L k).slots.at 1).value=((aa L
  k).slots.at 1).value/\aa L k=aa L k/\k.oid=k.oid/\((aa L k).slots.at 0).value=((aa L k).slots.at 0).value/\((aa L k).slots.at 1).value=((aa L k).slots.at 1).value/\
  bZ 1 g ((dR L k g).count+1)=bZ 1 g ((dR L k g).count+1)/\true=true/\aa L k=aa L k/\k.oid=k.oid/\((aa L k).slots.at 0).value=((aa L k).slots.at 0).value/\
  ((aa L k).slots.at 1).value=((aa L k).slots.at 1).value/\dR L k g=dR L k g/\dR L k g=dR L k g/\bZ 1 g ((dR L k g).count+1)=bZ 1 g ((dR L k g).count+1)/\
  aa L k=aa L k/\k.oid=k.oid/\((aa L k).slots.at 0).value=((aa L k).slots.at 0).value/\((aa L k).slots.at 1).value=((aa L k).slots.at 1).value/\Aa L k n g=Aa L k
  n g/\m5 (((aa L k).slots.at 1).value-n+1)=m5 (((aa L k).slots.at 1).value-n+1)/\m5 ((aa L k).slots.at 1).value=m5 ((aa L k).slots.at 1).value/\z0 L k n g=z0
  L k n g/\m5 (((aa L k).slots.at 1).value-n)=m5 (((aa L k).slots.at 1).value-n)/\cy L (k7 L k n g)=cy L (k7 L k n g))/\∀(g_2:Int),qF L (bj L k n) g_2->
  (decide (g_2<bH (ak (cy L (k7 L k n g))))=true->(0<=g_2/\g_2< ↑(ak (cy L (k7 L k n g))))/\g_2.toNat<ak (cy L (k7 L k n g))/\true=true/\aL IntKind.i64 (g_2+1)/\
  ∃g',qF L (bj L k n) g'/\(bH (ak (cy L (bj L k n)))-g').toNat<(bH (ak (cy L (bj L k n)))-g_2).toNat/\bH (ak (cy L (k7 L k n g)))=bH (ak (cy L (k7 L
  k n g)))/\g_2+1=g'/\bN (lf L (bj L k n) g_2) (ai (cy L (k7 L k n g)) g_2.toNat 0) (au (k7 L k n g) (ai (cy L (k7 L k n g)) g_2.toNat 0))=lf L (bj L k n) g'/\
  k=k/\n=n/\void=void/\k=k/\aa L k=aa L k/\k.oid=k.oid/\((aa L k).slots.at 0).value=((aa L k).slots.at 0).value/\((aa L k).slots.at 1).value=((aa L
  k).slots.at 1).value/\aa L k=aa L k/\(aa L k).slots.at 0=(aa L k).slots.at 0/\(aa L k).slots.at 1=(aa L k).slots.at 1/\aa L k=aa L k/\k.oid=k.oid/\
  ((aa L k).slots.at 0).value=((aa L k).slots.at 0).value/\((aa L k).slots.at 1).value=((aa L k).slots.at 1).value/\k7 L k n g=k7 L k n g/\k=k/\aa L k=aa L k/\
  k.oid=k.oid/\((aa L k).slots.at 0).value=((aa L k).slots.at 0).value/\((aa L k).slots.at 1).value=((aa L k).slots.at 1).value/\aa L k=aa L k/\(aa L k).slots.at 0
  =(aa L k).slots.at 0/\(aa L k).slots.at 1=(aa L k).slots.at 1/\aa L k=aa L k/\k.oid=k.oid/\((aa L k).slots.at 0).value=((aa L k).slots.at 0).value/\((aa L
  k).slots.at 1).value=((aa L k).slots.at 1).value/\aa L k=aa L k/\k.oid=k.oid/\((aa L k).slots.at 0).value=((aa L k).slots.at 0).value/\((aa L k).slots.at 1).value=
  ((aa L k).slots.at 1).value/\bZ 1 g ((dR L k g).count+1)=bZ 1 g ((dR L k g).count+1)/\true=true/\aa L k=aa L k/\k.oid=k.oid/\((aa L k).slots.at 0).value=
  ((aa L k).slots.at 0).value/\((aa L k).slots.at 1).value=((aa L k).slots.at 1).value/\dR L k g=dR L k g/\dR L k g=dR L k g/\bZ 1 g ((dR L k g).count+1)=bZ 1
  g ((dR L k g).count+1)/\aa L k=aa L k/\k.oid=k.oid/\((aa L k).slots.at 0).value=((aa L k).slots.at 0).value/\((aa L k).slots.at 1).value=((aa L k).slots.at
  1).value/\Aa L k n g=Aa L k n g/\m5 (((aa L k).slots.at 1).value-n+1)=m5 (((aa L k).slots.at 1).value-n+1)/\m5 ((aa L k).slots.at 1).value=m5 ((aa L
  k).slots.at 1).value/\z0 L k n g=z0 L k n g/\m5 (((aa L k).slots.at 1).value-n)=m5 (((aa L k).slots.at 1).value-n)/\cy L (k7 L k n g)=cy L (k7 L k n g))/\(decide
  (g_2<bH (ak (cy L (k7 L k n g))))=false->(Key.mk 4 g ((dR L k g).count+1) (bZ 1 g ((dR L k g).count+1)).call (bZ 1 g ((dR L k g).count+1)).rights (bZ 1 g ((dR L k
  g).count+1)).value=ca L k n/\0=b7 L k n)/\lf L (bj L k n) g_2=bj L k n)))))))/\(decide (g<=((aa L k).slots.at 1).value)=false->true=true/\(void=ca L k n/\221
  =b7 L k n)/\L=bj L k n))))))))):=by
 refine⟨rfl,rfl,fun h=>n9 (sH (FK h) (by omega)) (by omega),fun h=>⟨rfl,fun h2=>n9 (sH (TS h h2) (by omega)) (by omega),fun h2=>⟨rfl,fun h3=>n9 (sH (T3 h h2 h3) (by omega)) (by omega),fun h3=>?_⟩⟩⟩
 obtain⟨e,e1,e2⟩:=Oa h h2 h3;obtain⟨_,a0,a1,a2,a3,a4⟩:=lZ e;have hkd:=yL (mE h2).1 (mE h2).2;have hlen:=gf hL;have hll:ak L=L.length:=rfl;have h3':=h3;rw[e1,e2]at h3';rw[e1,e2];have hr:∀x:Int,-1000<=x->x<=1000->aL IntKind.i64 x:=fun x h1 h2=>by simp only[aL,cg];omega
 refine⟨fun _=>hr _ (by omega) (by omega),rfl,fun h4=>n9 (FW e (by simp only[Bool.not_eq_true',Bool.and_eq_false_iff,decide_eq_false_iff_not]at h4;omega)) (by omega),fun h4=>⟨rfl,(show L.length<=1000 by omega),fun hn=>?_,fun _=>⟨rfl,rfl,fun h'=>?_,fun _=>⟨rfl,fun h'=>?_,fun _=>⟨rfl,fun h'=>?_,fun _=>⟨rfl,rfl,rfl,fun r0=>?_⟩⟩⟩⟩⟩⟩
 ·exfalso
  have:=Xs hn;omega
 ·rw[h]at h';exact absurd h' (by decide)
 ·rw[h2]at h';exact absurd h' (by decide)
 ·rw[h3']at h';exact absurd h' (by decide)
 simp only[Bool.not_eq_false',Xo,Xp]at h4;obtain⟨hn1,hn2⟩:=h4;have h0:=M5 e hn1 hn2;have hcnt:∀j:Nat,j<L.length->0<=(ai L j free).count/\(ai L j free).count<=4294967295:=fun j hj=>⟨(j6 (cm hL j hj)).1,(j6 (cm hL j hj)).2.1⟩
 have hci:∀j:Nat,j<L.length->aL IntKind.i64 ((ai L j free).count+1):=fun j hj=>by have:=hcnt j hj;simp only[aL,cg];omega
 refine⟨⟨aB L k,⟨by omega,by omega,xd⟩,rfl,?_⟩,fun g hg=>⟨fun hgl=>?_,fun hgl=>?_⟩⟩
 ·have hx:L=bI L (aB L k) (aB L k):=Bw;(repeat' apply And.intro)<;>first|with_reducible rfl|exact hx
 ·obtain⟨g0,g1,g2⟩:=hg;have hgl:=Xs hgl;have hgn:g.toNat<L.length:=by omega
  have hgz:(bI L (aB L k) g).length=L.length:=kF;have hO:dR L k g=ai L g.toNat free:=by unfold dR;rw[fu (by omega) (by omega),C6 (by omega)]
  refine⟨rfl,rfl,fun hk0=>?_,fun hk0=>⟨fun hc=>?_,fun hc=>?_⟩⟩
  ·obtain⟨f1,f2⟩:=E0 (o:=ai L g.toNat free) (by rw[<-hO];simpa using hk0)
   have hx:bI L (aB L k) g=bI L (aB L k) (g+1):=(CK (by omega) f1).symm
   refine⟨rfl,hr _ (by omega) (by omega),g+1,⟨by omega,by omega,nY g2 f2⟩,by omega,rfl,?_⟩
   (repeat' apply And.intro)<;>first|with_reducible rfl|exact hx
  ·rw[hO]at hk0 hc;obtain⟨f1,f2⟩:=IP (o:=ai L g.toNat free) (by simpa using hk0) (by have:=Xs hc;omega)
   have hp:=(ki (L:=bI L (aB L k) g) (i:=g) (by omega) (by omega) (hgz▸AQ (cm hL g.toNat hgn))).1
   have hx:bN (bI L (aB L k) g) g (Obj.mk 3 (dR L k g).count free.calls free.slots free.bytes)=bI L (aB L k) (g+1):=by rw[hO];exact hp.trans (Fc (by omega) (by omega) g0 f1)
   refine⟨rfl,rfl,hr _ (by omega) (by omega),g+1,⟨by omega,by omega,nY g2 f2⟩,by omega,rfl,?_⟩
   (repeat' apply And.intro)<;>first|with_reducible rfl|exact hx
  ·rw[hO]at hk0 hc;have hc:=Xr hc;have:=hcnt _ hgn;obtain⟨f1,f2⟩:=Kc (o:=ai L g.toNat free) (by simpa using hk0) (by omega)
   obtain⟨i1,i2,i3,i4,i5,i6,i7,i8⟩:=P5 hL e hkd g0 hgl g2 f2;have hcg:aL IntKind.i64 ((dR L k g).count+1):=by rw[hO];exact hci _ hgn
   refine⟨hcg,rfl,hcg,rfl,hr _ (by omega) (by omega),rfl,fun hc2=>n9 (Be h0 (.inr (by rw[i1];simp only[Bool.not_eq_true',decide_eq_false_iff_not]at hc2;omega))) (by omega),fun hc2=>⟨rfl,rfl,fun r1=>⟨⟨aB L k,⟨by omega,by omega,EP (by omega)⟩,rfl,?_⟩,fun j hj=>⟨fun hjl=>?_,fun hjl=>?_⟩⟩⟩⟩
   ·(repeat' apply And.intro)<;>first|with_reducible rfl|exact hx
   ·obtain⟨j0,j1,j2⟩:=hj;have hjl:=Xs hjl;have hgj:au (oT L k g) j=ai (dt L k) j.toNat free:=by rw[i3];exact fu (by omega) (by omega)
    rw[hgj];have hkk:=j6 (cm i5 j.toNat (by omega))
    refine⟨rfl,rfl,hr _ (by omega) (by omega),rfl,fun hb=>⟨rfl,?_⟩,fun hb=>⟨rfl,hr _ (by omega) (by omega),j+1,⟨by omega,by omega,?_⟩,by omega,rfl,?_⟩⟩
    ·simp only[Bool.not_eq_true',Bool.or_eq_false_iff,decide_eq_false_iff_not]at hb;have hbz:kX (ai (dt L k) j.toNat free)=true:=by unfold kX;simp only[Bool.or_eq_true,Xp];omega
     exact n9 (Mv h0 (LQ (by omega) (by omega) (by omega) (by omega) hbz)) (by omega)
    ·simp only[Bool.not_eq_false',Bool.or_eq_true,Xp]at hb;by_cases hjn:j<=aE L k-n
     ·exact EP (by omega)
     ·have hbz:kX (ai (dt L k) j.toNat free)=false:=by unfold kX;simp only[Bool.or_eq_false_iff,decide_eq_false_iff_not];omega
      rw[OZ (by omega) hbz];exact j2
    ·(repeat' apply And.intro)<;>first|with_reducible rfl|exact hx
   ·obtain⟨j0,j1,j2⟩:=hj;have hjl:=Xr hjl;have:j=aE L k+1:=by omega
    subst this;simp only[Bool.not_eq_false',Xp]at hc2;have hE:=PY h0 (by rw[i1];omega) (by rw[i1];omega) j2
    obtain⟨l1,l2,l3,l4⟩:=PU hL e hkd e2 g0 hgl g2 f2 hE;rw[l1];have hul:(cy L (bj L k n)).length<=L.length:=Oj;have hu:bH (ak (cy L (bj L k n)))=((cy L (bj L k n)).length:Int):=rfl
    refine⟨rfl,rfl,hr _ (by omega) (by omega),hr _ (by omega) (by omega),rfl,rfl,rfl,rfl,rfl,hr _ (by omega) (by omega),rfl,rfl,rfl,(show L.length<=1000 by omega),fun hno=>?_,fun _=>⟨⟨0,⟨by omega,by omega⟩,rfl,rfl,?_⟩,fun t ht=>⟨fun htl=>?_,fun htl=>⟨⟨l4,hE.symm⟩,NP l3 l2 ?_⟩⟩⟩⟩
    ·rw[Kv l3 (by omega)]at hno;exact absurd hno (by decide)
    ·have hx:L=lf L (bj L k n) 0:=rfl;(repeat' apply And.intro)<;>first|with_reducible rfl|exact hx
    ·obtain⟨t0,t1⟩:=ht;have htl:=Xs htl;rw[hu]at htl;have hx:bN (lf L (bj L k n) t) (ai (cy L (bj L k n)) t.toNat 0) (au (bj L k n) (ai (cy L (bj L k n)) t.toNat 0))=lf L (bj L k n) (t+1):=Js t0;refine⟨⟨t0,htl⟩,(show t.toNat<(cy L (bj L k n)).length by omega),rfl,hr _ (by omega) (by omega),t+1,⟨by omega,by omega⟩,by rw[hu];omega,rfl,rfl,?_⟩
     (repeat' apply And.intro)<;>first|with_reducible rfl|exact hx
    ·have htl:=Xr htl;rw[hu]at htl;obtain⟨t0,t1⟩:=ht;omega
 ·obtain⟨g0,g1,g2⟩:=hg;have hgl:=Xr hgl;have:g=aE L k+1:=by omega
  subst this;obtain⟨m1,m2,m3⟩:=Lt 1 g2;exact⟨rfl,n9 (Be h0 (.inl (by unfold eQ;rw[m1];omega))) (by omega)⟩
theorem Ge (L:List Sx.Obj) (k:Key) (n:Int) (hL:aq L):aj Tryz.prog 169 [.lp 0 0,.key k,.it .i64 n] [.store tS eS L] (AA (.tp [.key (ca L k n),.it .i64 (b7 L k n)]) (bj L k n)) (fun _ _=>False):=
 aK (inl:=(fun f=>f==214||f==213||f==218||f==219||f==220||f==221||f==222||f==223||f==1000000+232)) (ann:=(kg [(3000+232,1,VB [0,1] (fun g=> [(3,.it .i64 g)]) 11 (fun g=> .store tS eS (bI L (aB L k) g)) (iw L k) (Cc (aE L k) 1)),(9000+232,1,Uz [0,1] (fun g=> [(3,.it .i64 g)]) (nW L k n) (Cc (aE L k) 1)),(169,16,VB [0,6,7,9,10,90,91] (fun g=> [(92,.it .i64 g)]) 0 (fun g=> .store tS eS (lf L (bj L k n) g)) (qF L (bj L k n)) (bH (ak (cy L (bj L k n)))))])) (ab aY (ab bk (ab eG (ab qe an)))) (aC cw (aC vr (aC Ee az))) (cW fR) (Ha L k n hL) (by kernel_rfl)
theorem GK:oU Tryz.prog 169 JG:=
 lW (m:=fun x=>Uo.cn x 0) (nM Jk (fun _=>rfl)) (fun _=>rfl) (fun _ _=>rfl) (fun x=>aK (inl:=(fun f=>f==214||f==213||f==218||f==219||f==220||f==221||f==222||f==223||f==1000000+232)) (ann:=aO) (ab aY (ab bk (ab eG (ab qe an)))) (aC cw (aC vr (aC Ee az))) (cW fR) (D3 x.1 x.2.1) (by kernel_rfl)) (fun x=>aK (inl:=(fun f=>f==214||f==213||f==218||f==219||f==220||f==221||f==222||f==223||f==1000000+232)) (ann:=aO) (ab aY (ab bk (ab eG (ab qe an)))) (aC cw (aC vr (aC Ee az))) (cW fR) (Ed x.1 x.2.1) (by kernel_rfl)) fun L x hL _ _=>Ge L x.1 x.2.1 hL
end Go.Proofs.YtlblcfaclmpekaaGreat
