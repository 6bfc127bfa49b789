import Derived.Test.YtghpaegglbbocaaGreatCB
import Derived.Test.YtghpaegglbbocaaGreatCQ
set_option linter.unusedSimpArgs false
set_option linter.unusedVariables false
namespace Go.Proofs.YtghpaegglbbocaaGreat
open Go.Sx
set_option maxRecDepth 100000
theorem Cl (k:Key) (n:Int):
 true=true/\true=true/\((!decide (0<ah []))=true->void=bJ [] k n/\1=bN [] k n)/\((!decide (0<ah []))=false->true=true/\((!(aM [] k&&decide (k.kind=4)))=
  true->void=bJ [] k n/\190=bN [] k n)/\((!(aM [] k&&decide (k.kind=4)))=false->true=true/\((!(decide (((aa [] k).slots.at 0).kind=1)&&decide (((aa [] k).slots.at
  1).kind=1)&&decide (0<=((aa [] k).slots.at 0).value)&&decide (((aa [] k).slots.at 0).value<=((aa [] k).slots.at 1).value)&&decide (((aa [] k).slots.at 1).value<ah [])))
  =true->void=bJ [] k n/\220=bN [] k n)/\((!(decide (((aa [] k).slots.at 0).kind=1)&&decide (((aa [] k).slots.at 1).kind=1)&&decide (0<=((aa [] k).slots.at 0).value)&&
  decide (((aa [] k).slots.at 0).value<=((aa [] k).slots.at 1).value)&&decide (((aa [] k).slots.at 1).value<ah [])))=false->(decide (1<=n)=true->aQ IntKind.i64 (((aa []
  k).slots.at 1).value-((aa [] k).slots.at 0).value))/\true=true/\((!(decide (1<=n)&&decide (n<=((aa [] k).slots.at 1).value-((aa [] k).slots.at 0).value)))=true->void=bJ
  [] k n/\4=bN [] k n)/\((!(decide (1<=n)&&decide (n<=((aa [] k).slots.at 1).value-((aa [] k).slots.at 0).value)))=false->true=true/\true=true/\true=true/\((!decide (0<
  ah []))=true->void=bJ [] k n/\1=bN [] k n)/\((!decide (0<ah []))=false->true=true/\((!(aM [] k&&decide (k.kind=4)))=true->void=bJ [] k n/\190=bN [] k
  n)/\((!(aM [] k&&decide (k.kind=4)))=false->true=true/\((!(decide (((aa [] k).slots.at 0).kind=1)&&decide (((aa [] k).slots.at 1).kind=1)&&decide (0<=((aa []
  k).slots.at 0).value)&&decide (((aa [] k).slots.at 0).value<=((aa [] k).slots.at 1).value)&&decide (((aa [] k).slots.at 1).value<ah [])))=true->void=bJ [] k n/\220=
  bN [] k n)/\((!(decide (((aa [] k).slots.at 0).kind=1)&&decide (((aa [] k).slots.at 1).kind=1)&&decide (0<=((aa [] k).slots.at 0).value)&&decide (((aa [] k).slots.at
  0).value<=((aa [] k).slots.at 1).value)&&decide (((aa [] k).slots.at 1).value<ah [])))=false->true=true/\true=true/\true=true/\∀(r0:Loop),False))))))):=by
 exact⟨rfl,rfl,fun h=>(nc (qA (C2 h) (by omega)) (by omega)).1,fun h=>absurd h (by decide)⟩
theorem BN (k:Key) (n:Int):
 true=true/\true=true/\((!decide (0<ah []))=true->void=bJ [] k n/\1=bN [] k n)/\((!decide (0<ah []))=false->true=true/\((!(aM [] k&&decide (k.kind=4)))=
  true->void=bJ [] k n/\190=bN [] k n)/\((!(aM [] k&&decide (k.kind=4)))=false->true=true/\((!(decide (((aa [] k).slots.at 0).kind=1)&&decide (((aa [] k).slots.at
  1).kind=1)&&decide (0<=((aa [] k).slots.at 0).value)&&decide (((aa [] k).slots.at 0).value<=((aa [] k).slots.at 1).value)&&decide (((aa [] k).slots.at 1).value<ah [])))
  =true->void=bJ [] k n/\220=bN [] k n)/\((!(decide (((aa [] k).slots.at 0).kind=1)&&decide (((aa [] k).slots.at 1).kind=1)&&decide (0<=((aa [] k).slots.at 0).value)&&
  decide (((aa [] k).slots.at 0).value<=((aa [] k).slots.at 1).value)&&decide (((aa [] k).slots.at 1).value<ah [])))=false->(decide (1<=n)=true->aQ IntKind.i64 (((aa []
  k).slots.at 1).value-((aa [] k).slots.at 0).value))/\true=true/\((!(decide (1<=n)&&decide (n<=((aa [] k).slots.at 1).value-((aa [] k).slots.at 0).value)))=true->void=bJ
  [] k n/\4=bN [] k n)/\((!(decide (1<=n)&&decide (n<=((aa [] k).slots.at 1).value-((aa [] k).slots.at 0).value)))=false->true=true/\False)))):=by
 exact⟨rfl,rfl,fun h=>(nc (qA (C2 h) (by omega)) (by omega)).1,fun h=>absurd h (by decide)⟩
theorem E1 (L:List Sx.Obj) (k:Key) (n:Int) (hL:an L):
 true=true/\true=true/\((!decide (0<ah L))=true->(void=bJ L k n/\1=bN L k n)/\L=bc L k n)/\((!decide (0<ah L))=false->true=true/\((!(aM L k&&decide
  (k.kind=4)))=true->(void=bJ L k n/\190=bN L k n)/\L=bc L k n)/\((!(aM L k&&decide (k.kind=4)))=false->true=true/\((!(decide (((aa L k).slots.at 0).kind=1)&&
  decide (((aa L k).slots.at 1).kind=1)&&decide (0<=((aa L k).slots.at 0).value)&&decide (((aa L k).slots.at 0).value<=((aa L k).slots.at 1).value)&&decide (((aa L
  k).slots.at 1).value<ah L)))=true->(void=bJ L k n/\220=bN L k n)/\L=bc L k n)/\((!(decide (((aa L k).slots.at 0).kind=1)&&decide (((aa L k).slots.at 1).kind=1)
  &&decide (0<=((aa L k).slots.at 0).value)&&decide (((aa L k).slots.at 0).value<=((aa L k).slots.at 1).value)&&decide (((aa L k).slots.at 1).value<ah L)))=false->(decide
  (1<=n)=true->aQ IntKind.i64 (((aa L k).slots.at 1).value-((aa L k).slots.at 0).value))/\true=true/\((!(decide (1<=n)&&decide (n<=((aa L k).slots.at 1).value-((aa L
  k).slots.at 0).value)))=true->(void=bJ L k n/\4=bN L k n)/\L=bc L k n)/\((!(decide (1<=n)&&decide (n<=((aa L k).slots.at 1).value-((aa L k).slots.at 0).value)))=
  false->true=true/\(aE L).le 1000/\(bg L=true->true=true/\true=true/\((!decide (0<ah []))=true->(void=bJ L k n/\1=bN L k n)/\L=bc L k n)/\((!decide (0<
  ah []))=false->true=true/\((!(aM [] k&&decide (k.kind=4)))=true->(void=bJ L k n/\190=bN L k n)/\L=bc L k n)/\((!(aM [] k&&decide (k.kind=4)))=false->true=
  true/\((!(decide (((aa [] k).slots.at 0).kind=1)&&decide (((aa [] k).slots.at 1).kind=1)&&decide (0<=((aa [] k).slots.at 0).value)&&decide (((aa [] k).slots.at 0).value<=
  ((aa [] k).slots.at 1).value)&&decide (((aa [] k).slots.at 1).value<ah [])))=true->(void=bJ L k n/\220=bN L k n)/\L=bc L k n)/\((!(decide (((aa [] k).slots.at
  0).kind=1)&&decide (((aa [] k).slots.at 1).kind=1)&&decide (0<=((aa [] k).slots.at 0).value)&&decide (((aa [] k).slots.at 0).value<=((aa [] k).slots.at 1).value)&&decide
  (((aa [] k).slots.at 1).value<ah [])))=false->true=true/\true=true/\true=true/\∀(r0:Loop),(∃g,gD L k g/\False)/\∀(g:Int),gD L k g->(decide (g<=((aa []
  k).slots.at 1).value)=true->r0=r0/\r0=r0/\((!decide ((aH [] g).kind=0))=true->r0=r0/\aQ IntKind.i64 (g+1)/\∃g',gD L k g'/\(ay L k+1-g').toNat<(ay L k+1
  -g).toNat/\g+1=g'/\L=L/\k=k/\n=n/\void=void/\k=k/\aa L k=aa L k/\k.oid=k.oid/\((aa L k).slots.at 0).value=((aa L k).slots.at 0).value/\((aa L
  k).slots.at 1).value=((aa L k).slots.at 1).value/\aa L k=aa L k/\(aa L k).slots.at 0=(aa L k).slots.at 0/\(aa L k).slots.at 1=(aa L k).slots.at 1/\aa L k=
  aa L k/\k.oid=k.oid/\((aa L k).slots.at 0).value=((aa L k).slots.at 0).value/\((aa L k).slots.at 1).value=((aa L k).slots.at 1).value/\bz L (au L k) g=bz L
  (au L k) g'/\aa [] k=aa [] k/\Value.pointer none=Value.pointer none/\k.oid=k.oid/\((aa [] k).slots.at 0).value=((aa [] k).slots.at 0).value/\((aa [] k).slots.at
  1).value=((aa [] k).slots.at 1).value/\aa [] k=aa [] k/\(aa [] k).slots.at 0=(aa [] k).slots.at 0/\(aa [] k).slots.at 1=(aa [] k).slots.at 1/\aa [] k=
  aa [] k/\Value.pointer none=Value.pointer none/\k.oid=k.oid/\((aa [] k).slots.at 0).value=((aa [] k).slots.at 0).value/\((aa [] k).slots.at 1).value=((aa [] k).slots.at
  1).value/\aa [] k=aa [] k/\Value.pointer none=Value.pointer none/\k.oid=k.oid/\((aa [] k).slots.at 0).value=((aa [] k).slots.at 0).value/\((aa [] k).slots.at 1).value=
  ((aa [] k).slots.at 1).value/\void=void/\false=false/\aa [] k=aa [] k/\Value.pointer none=Value.pointer none/\k.oid=k.oid/\((aa [] k).slots.at 0).value=((aa []
  k).slots.at 0).value/\((aa [] k).slots.at 1).value=((aa [] k).slots.at 1).value/\r0=r0)/\((!decide ((aH [] g).kind=0))=false->(decide ((aH [] g).count=4294967295)=true->
  true=true/\r0=r0/\aQ IntKind.i64 (g+1)/\∃g',gD L k g'/\(ay L k+1-g').toNat<(ay L k+1-g).toNat/\g+1=g'/\L=L/\k=k/\n=n/\void=void/\k=k/\aa L
  k=aa L k/\k.oid=k.oid/\((aa L k).slots.at 0).value=((aa L k).slots.at 0).value/\((aa L k).slots.at 1).value=((aa L k).slots.at 1).value/\aa L k=aa L k/\
  (aa L k).slots.at 0=(aa L k).slots.at 0/\(aa L k).slots.at 1=(aa L k).slots.at 1/\aa L k=aa L k/\k.oid=k.oid/\((aa L k).slots.at 0).value=((aa L
  k).slots.at 0).value/\((aa L k).slots.at 1).value=((aa L k).slots.at 1).value/\bz L (au L k) g=bz L (au L k) g'/\aa [] k=aa [] k/\Value.pointer none=
  Value.pointer none/\k.oid=k.oid/\((aa [] k).slots.at 0).value=((aa [] k).slots.at 0).value/\((aa [] k).slots.at 1).value=((aa [] k).slots.at 1).value/\aa [] k=aa []
  k/\(aa [] k).slots.at 0=(aa [] k).slots.at 0/\(aa [] k).slots.at 1=(aa [] k).slots.at 1/\aa [] k=aa [] k/\Value.pointer none=Value.pointer none/\k.oid=k.oid/\
  ((aa [] k).slots.at 0).value=((aa [] k).slots.at 0).value/\((aa [] k).slots.at 1).value=((aa [] k).slots.at 1).value/\aa [] k=aa [] k/\Value.pointer none=
  Value.pointer none/\k.oid=k.oid/\((aa [] k).slots.at 0).value=((aa [] k).slots.at 0).value/\((aa [] k).slots.at 1).value=((aa [] k).slots.at 1).value/\void=void/\false=
  false/\aa [] k=aa [] k/\Value.pointer none=Value.pointer none/\k.oid=k.oid/\((aa [] k).slots.at 0).value=((aa [] k).slots.at 0).value/\((aa [] k).slots.at 1).value=
  ((aa [] k).slots.at 1).value/\r0=r0)/\(decide ((aH [] g).count=4294967295)=false->aQ IntKind.i64 ((aH [] g).count+1)/\true=true/\aQ IntKind.i64 ((aH [] g).count+1)/\
  r0=r0/\aQ IntKind.i64 (((aa [] k).slots.at 1).value-n)/\true=true/\((!decide ((bI 1 g ((aH [] g).count+1)).oid<=((aa [] k).slots.at 1).value-n))=true->(void=bJ L
  k n/\221=bN L k n)/\L=bc L k n)/\((!decide ((bI 1 g ((aH [] g).count+1)).oid<=((aa [] k).slots.at 1).value-n))=false->true=true/\true=true/\∀(r0:Loop),(∃g_1,
  np L k n g_1/\((aa [] k).slots.at 0).value=g_1/\L=L/\k=k/\n=n/\void=void/\k=k/\aa L k=aa L k/\k.oid=k.oid/\((aa L k).slots.at 0).value=((aa L
  k).slots.at 0).value/\((aa L k).slots.at 1).value=((aa L k).slots.at 1).value/\aa L k=aa L k/\(aa L k).slots.at 0=(aa L k).slots.at 0/\(aa L k).slots.at 1=
  (aa L k).slots.at 1/\aa L k=aa L k/\k.oid=k.oid/\((aa L k).slots.at 0).value=((aa L k).slots.at 0).value/\((aa L k).slots.at 1).value=((aa L k).slots.at 1).value
  /\bz L (au L k) g=bz L (au L k) g/\aa [] k=aa [] k/\Value.pointer none=Value.pointer none/\k.oid=k.oid/\((aa [] k).slots.at 0).value=((aa [] k).slots.at
  0).value/\((aa [] k).slots.at 1).value=((aa [] k).slots.at 1).value/\aa [] k=aa [] k/\(aa [] k).slots.at 0=(aa [] k).slots.at 0/\(aa [] k).slots.at 1=(aa []
  k).slots.at 1/\aa [] k=aa [] k/\Value.pointer none=Value.pointer none/\k.oid=k.oid/\((aa [] k).slots.at 0).value=((aa [] k).slots.at 0).value/\((aa [] k).slots.at
  1).value=((aa [] k).slots.at 1).value/\aa [] k=aa [] k/\Value.pointer none=Value.pointer none/\k.oid=k.oid/\((aa [] k).slots.at 0).value=((aa [] k).slots.at 0).value/\
  ((aa [] k).slots.at 1).value=((aa [] k).slots.at 1).value/\bI 1 g ((aH [] g).count+1)=bI 1 g ((aH [] g).count+1)/\true=true/\aa [] k=aa [] k/\Value.pointer
  none=Value.pointer none/\k.oid=k.oid/\((aa [] k).slots.at 0).value=((aa [] k).slots.at 0).value/\((aa [] k).slots.at 1).value=((aa [] k).slots.at 1).value/\aH [] g=
  aH [] g/\aH [] g=aH [] g/\bI 1 g ((aH [] g).count+1)=bI 1 g ((aH [] g).count+1)/\aa [] k=aa [] k/\Value.pointer none=Value.pointer none/\k.oid=k.oid/\
  ((aa [] k).slots.at 0).value=((aa [] k).slots.at 0).value/\((aa [] k).slots.at 1).value=((aa [] k).slots.at 1).value/\r0=r0)/\∀(g_1:Int),np L k n g_1->(decide (g_1<=
  ((aa [] k).slots.at 1).value)=true->r0=r0/\r0=r0/\aQ IntKind.i64 (((aa [] k).slots.at 1).value-n)/\true=true/\((!(decide (g_1<=((aa [] k).slots.at 1).value-n)||decide
  ((aH [] g_1).kind=0)||decide ((aH [] g_1).kind=3)))=true->r0=r0/\(void=bJ L k n/\221=bN L k n)/\L=bc L k n)/\((!(decide (g_1<=((aa [] k).slots.at 1).value-n)
  ||decide ((aH [] g_1).kind=0)||decide ((aH [] g_1).kind=3)))=false->r0=r0/\aQ IntKind.i64 (g_1+1)/\∃g',np L k n g'/\(ay L k+1-g').toNat<(ay L k+1-
  g_1).toNat/\g_1+1=g'/\L=L/\k=k/\n=n/\void=void/\k=k/\aa L k=aa L k/\k.oid=k.oid/\((aa L k).slots.at 0).value=((aa L k).slots.at 0).value/\((aa L
  k).slots.at 1).value=((aa L k).slots.at 1).value/\aa L k=aa L k/\(aa L k).slots.at 0=(aa L k).slots.at 0/\(aa L k).slots.at 1=(aa L k).slots.at 1/\aa L k=
  aa L k/\k.oid=k.oid/\((aa L k).slots.at 0).value=((aa L k).slots.at 0).value/\((aa L k).slots.at 1).value=((aa L k).slots.at 1).value/\bz L (au L k) g=bz L
  (au L k) g/\aa [] k=aa [] k/\Value.pointer none=Value.pointer none/\k.oid=k.oid/\((aa [] k).slots.at 0).value=((aa [] k).slots.at 0).value/\((aa [] k).slots.at
  1).value=((aa [] k).slots.at 1).value/\aa [] k=aa [] k/\(aa [] k).slots.at 0=(aa [] k).slots.at 0/\(aa [] k).slots.at 1=(aa [] k).slots.at 1/\aa [] k=
  aa [] k/\Value.pointer none=Value.pointer none/\k.oid=k.oid/\((aa [] k).slots.at 0).value=((aa [] k).slots.at 0).value/\((aa [] k).slots.at 1).value=((aa [] k).slots.at
  1).value/\aa [] k=aa [] k/\Value.pointer none=Value.pointer none/\k.oid=k.oid/\((aa [] k).slots.at 0).value=((aa [] k).slots.at 0).value/\((aa [] k).slots.at 1).value=
  ((aa [] k).slots.at 1).value/\bI 1 g ((aH [] g).count+1)=bI 1 g ((aH [] g).count+1)/\true=true/\aa [] k=aa [] k/\Value.pointer none=Value.pointer none/\k.oid
  =k.oid/\((aa [] k).slots.at 0).value=((aa [] k).slots.at 0).value/\((aa [] k).slots.at 1).value=((aa [] k).slots.at 1).value/\aH [] g=aH [] g/\aH [] g=aH [] g/\
  bI 1 g ((aH [] g).count+1)=bI 1 g ((aH [] g).count+1)/\aa [] k=aa [] k/\Value.pointer none=Value.pointer none/\k.oid=k.oid/\((aa [] k).slots.at 0).value=
  ((aa [] k).slots.at 0).value/\((aa [] k).slots.at 1).value=((aa [] k).slots.at 1).value/\r0=r0))/\(decide (g_1<=((aa [] k).slots.at 1).value)=false->true=true/\true=true
  /\aQ IntKind.i64 (((aa [] k).slots.at 1).value-n)/\aQ IntKind.i64 (((aa [] k).slots.at 1).value-n+1)/\true=true/\true=true/\true=true/\true=true/\true=true/\aQ
  IntKind.i64 (((aa [] k).slots.at 1).value-n)/\true=true/\true=true/\true=true/\False)))))/\(decide (g<=((aa [] k).slots.at 1).value)=false->true=true/\(void=bJ L k n/\
  221=bN L k n)/\L=bc L k n)))))/\(bg L=false->true=true/\true=true/\((!decide (0<ah L))=true->(void=bJ L k n/\1=bN L k n)/\L=bc L k n)/\((!decide (0
  <ah L))=false->true=true/\((!(aM L k&&decide (k.kind=4)))=true->(void=bJ L k n/\190=bN L k n)/\L=bc L k n)/\((!(aM L k&&decide (k.kind=4)))=false->true=
  true/\((!(decide (((aa L k).slots.at 0).kind=1)&&decide (((aa L k).slots.at 1).kind=1)&&decide (0<=((aa L k).slots.at 0).value)&&decide (((aa L k).slots.at 0).value<=
  ((aa L k).slots.at 1).value)&&decide (((aa L k).slots.at 1).value<ah L)))=true->(void=bJ L k n/\220=bN L k n)/\L=bc L k n)/\((!(decide (((aa L k).slots.at
  0).kind=1)&&decide (((aa L k).slots.at 1).kind=1)&&decide (0<=((aa L k).slots.at 0).value)&&decide (((aa L k).slots.at 0).value<=((aa L k).slots.at 1).value)&&decide
  (((aa L k).slots.at 1).value<ah L)))=false->true=true/\true=true/\true=true/\∀(r0:Loop),(∃g,gD L k g/\((aa L k).slots.at 0).value=g/\L=L/\k=k/\n=n/\
  void=void/\k=k/\aa L k=aa L k/\k.oid=k.oid/\((aa L k).slots.at 0).value=((aa L k).slots.at 0).value/\((aa L k).slots.at 1).value=((aa L k).slots.at 1).value/\
  aa L k=aa L k/\(aa L k).slots.at 0=(aa L k).slots.at 0/\(aa L k).slots.at 1=(aa L k).slots.at 1/\aa L k=aa L k/\k.oid=k.oid/\((aa L k).slots.at
  0).value=((aa L k).slots.at 0).value/\((aa L k).slots.at 1).value=((aa L k).slots.at 1).value/\L=bz L (au L k) g/\k=k/\aa L k=aa L k/\k.oid=k.oid/\((aa
  L k).slots.at 0).value=((aa L k).slots.at 0).value/\((aa L k).slots.at 1).value=((aa L k).slots.at 1).value/\aa L k=aa L k/\(aa L k).slots.at 0=(aa L k).slots.at
  0/\(aa L k).slots.at 1=(aa L k).slots.at 1/\aa L k=aa L k/\k.oid=k.oid/\((aa L k).slots.at 0).value=((aa L k).slots.at 0).value/\((aa L k).slots.at 1).value=
  ((aa L k).slots.at 1).value/\aa L k=aa L k/\k.oid=k.oid/\((aa L k).slots.at 0).value=((aa L k).slots.at 0).value/\((aa L k).slots.at 1).value=((aa L k).slots.at
  1).value/\void=void/\false=false/\aa L k=aa L k/\k.oid=k.oid/\((aa L k).slots.at 0).value=((aa L k).slots.at 0).value/\((aa L k).slots.at 1).value=((aa L
  k).slots.at 1).value/\r0=r0)/\∀(g:Int),gD L k g->(decide (g<=((aa L k).slots.at 1).value)=true->r0=r0/\r0=r0/\((!decide ((dG L k g).kind=0))=true->r0=r0/\aQ
  IntKind.i64 (g+1)/\∃g',gD L k g'/\(ay L k+1-g').toNat<(ay L k+1-g).toNat/\g+1=g'/\L=L/\k=k/\n=n/\void=void/\k=k/\aa L k=aa L k/\k.oid=
  k.oid/\((aa L k).slots.at 0).value=((aa L k).slots.at 0).value/\((aa L k).slots.at 1).value=((aa L k).slots.at 1).value/\aa L k=aa L k/\(aa L k).slots.at 0=
  (aa L k).slots.at 0/\(aa L k).slots.at 1=(aa L k).slots.at 1/\aa L k=aa L k/\k.oid=k.oid/\((aa L k).slots.at 0).value=((aa L k).slots.at 0).value/\((aa L
  k).slots.at 1).value=((aa L k).slots.at 1).value/\bz L (au L k) g=bz L (au L k) g'/\k=k/\aa L k=aa L k/\k.oid=k.oid/\((aa L k).slots.at 0).value=((aa
  L k).slots.at 0).value/\((aa L k).slots.at 1).value=((aa L k).slots.at 1).value/\aa L k=aa L k/\(aa L k).slots.at 0=(aa L k).slots.at 0/\(aa L k).slots.at 1=
  (aa L k).slots.at 1/\aa L k=aa L k/\k.oid=k.oid/\((aa L k).slots.at 0).value=((aa L k).slots.at 0).value/\((aa L k).slots.at 1).value=((aa L k).slots.at 1).value
  /\aa L k=aa L k/\k.oid=k.oid/\((aa L k).slots.at 0).value=((aa L k).slots.at 0).value/\((aa L k).slots.at 1).value=((aa L k).slots.at 1).value/\void=void/\false=
  false/\aa L k=aa L k/\k.oid=k.oid/\((aa L k).slots.at 0).value=((aa L k).slots.at 0).value/\((aa L k).slots.at 1).value=((aa L k).slots.at 1).value/\r0=r0)/\
  ((!decide ((dG L k g).kind=0))=false->(decide ((dG L k g).count=4294967295)=true->true=true/\r0=r0/\aQ IntKind.i64 (g+1)/\∃g',gD L k g'/\(ay L k+1-g').toNat<
  (ay L k+1-g).toNat/\g+1=g'/\L=L/\k=k/\n=n/\void=void/\k=k/\aa L k=aa L k/\k.oid=k.oid/\((aa L k).slots.at 0).value=((aa L k).slots.at 0).value/\
  ((aa L k).slots.at 1).value=((aa L k).slots.at 1).value/\aa L k=aa L k/\(aa L k).slots.at 0=(aa L k).slots.at 0/\(aa L k).slots.at 1=(aa L k).slots.at 1/\
  aa L k=aa L k/\k.oid=k.oid/\((aa L k).slots.at 0).value=((aa L k).slots.at 0).value/\((aa L k).slots.at 1).value=((aa L k).slots.at 1).value/\cc (bz L (au
  L k) g) g (Obj.mk 3 (dG L k g).count free.calls free.slots free.bytes)=bz L (au L k) g'/\k=k/\aa L k=aa L k/\k.oid=k.oid/\((aa L k).slots.at 0).value=((aa L
  k).slots.at 0).value/\((aa L k).slots.at 1).value=((aa L k).slots.at 1).value/\aa L k=aa L k/\(aa L k).slots.at 0=(aa L k).slots.at 0/\(aa L k).slots.at 1=
  (aa L k).slots.at 1/\aa L k=aa L k/\k.oid=k.oid/\((aa L k).slots.at 0).value=((aa L k).slots.at 0).value/\((aa L k).slots.at 1).value=((aa L k).slots.at 1).value
  /\aa L k=aa L k/\k.oid=k.oid/\((aa L k).slots.at 0).value=((aa L k).slots.at 0).value/\((aa L k).slots.at 1).value=((aa L k).slots.at 1).value/\void=void/\false=
  false/\aa L k=aa L k/\k.oid=k.oid/\((aa L k).slots.at 0).value=((aa L k).slots.at 0).value/\((aa L k).slots.at 1).value=((aa L k).slots.at 1).value/\r0=r0)/\
  (decide ((dG L k g).count=4294967295)=false->aQ IntKind.i64 ((dG L k g).count+1)/\true=true/\aQ IntKind.i64 ((dG L k g).count+1)/\r0=r0/\aQ IntKind.i64 (((aa L
  k).slots.at 1).value-n)/\true=true/\((!decide (g<=((aa L k).slots.at 1).value-n))=true->(void=bJ L k n/\221=bN L k n)/\L=bc L k n)/\((!decide (g<=((aa L
  k).slots.at 1).value-n))=false->true=true/\true=true/\∀(r0:Loop),(∃g_1,np L k n g_1/\((aa L k).slots.at 0).value=g_1/\L=L/\k=k/\n=n/\void=void/\k=k/\aa
  L k=aa L k/\k.oid=k.oid/\((aa L k).slots.at 0).value=((aa L k).slots.at 0).value/\((aa L k).slots.at 1).value=((aa L k).slots.at 1).value/\aa L k=aa L k/\
  (aa L k).slots.at 0=(aa L k).slots.at 0/\(aa L k).slots.at 1=(aa L k).slots.at 1/\aa L k=aa L k/\k.oid=k.oid/\((aa L k).slots.at 0).value=((aa L
  k).slots.at 0).value/\((aa L k).slots.at 1).value=((aa L k).slots.at 1).value/\nC L k g=nC L k g/\k=k/\aa L k=aa L k/\k.oid=k.oid/\((aa L k).slots.at 0).value=
  ((aa L k).slots.at 0).value/\((aa L k).slots.at 1).value=((aa L k).slots.at 1).value/\aa L k=aa L k/\(aa L k).slots.at 0=(aa L k).slots.at 0/\(aa L k).slots.at
  1=(aa L k).slots.at 1/\aa L k=aa L k/\k.oid=k.oid/\((aa L k).slots.at 0).value=((aa L k).slots.at 0).value/\((aa L k).slots.at 1).value=((aa L k).slots.at
  1).value/\aa L k=aa L k/\k.oid=k.oid/\((aa L k).slots.at 0).value=((aa L k).slots.at 0).value/\((aa L k).slots.at 1).value=((aa L k).slots.at 1).value/\bI 1 g
  ((dG L k g).count+1)=bI 1 g ((dG L k g).count+1)/\true=true/\aa L k=aa L k/\k.oid=k.oid/\((aa L k).slots.at 0).value=((aa L k).slots.at 0).value/\((aa L
  k).slots.at 1).value=((aa L k).slots.at 1).value/\dG L k g=dG L k g/\dG L k g=dG L k g/\bI 1 g ((dG L k g).count+1)=bI 1 g ((dG L k g).count+1)/\aa L k=
  aa L k/\k.oid=k.oid/\((aa L k).slots.at 0).value=((aa L k).slots.at 0).value/\((aa L k).slots.at 1).value=((aa L k).slots.at 1).value/\r0=r0)/\∀(g_1:Int),np L
  k n g_1->(decide (g_1<=((aa L k).slots.at 1).value)=true->r0=r0/\r0=r0/\aQ IntKind.i64 (((aa L k).slots.at 1).value-n)/\true=true/\((!(decide (g_1<=((aa L k).slots.at
  1).value-n)||decide ((aH (nC L k g) g_1).kind=0)||decide ((aH (nC L k g) g_1).kind=3)))=true->r0=r0/\(void=bJ L k n/\221=bN L k n)/\L=bc L k n)/\((!(decide
  (g_1<=((aa L k).slots.at 1).value-n)||decide ((aH (nC L k g) g_1).kind=0)||decide ((aH (nC L k g) g_1).kind=3)))=false->r0=r0/\aQ IntKind.i64 (g_1+1)/\∃g',np
  L k n g'/\(ay L k+1-g').toNat<(ay L k+1-g_1).toNat/\g_1+1=g'/\L=L/\k=k/\n=n/\void=void/\k=k/\aa L k=aa L k/\k.oid=k.oid/\((aa L k).slots.at
  0).value=((aa L k).slots.at 0).value/\((aa L k).slots.at 1).value=((aa L k).slots.at 1).value/\aa L k=aa L k/\(aa L k).slots.at 0=(aa L k).slots.at 0/\(aa L
  k).slots.at 1=(aa L k).slots.at 1/\aa L k=aa L k/\k.oid=k.oid/\((aa L k).slots.at 0).value=((aa L k).slots.at 0).value/\((aa L k).slots.at 1).value=((aa L
  k).slots.at 1).value/\nC L k g=nC L k g/\k=k/\aa L k=aa L k/\k.oid=k.oid/\((aa L k).slots.at 0).value=((aa L k).slots.at 0).value/\((aa L k).slots.at 1).value=
  ((aa L k).slots.at 1).value/\aa L k=aa L k/\(aa L k).slots.at 0=(aa L k).slots.at 0/\(aa L k).slots.at 1=(aa L k).slots.at 1/\aa L k=aa L k/\k.oid=
  k.oid/\((aa L k).slots.at 0).value=((aa L k).slots.at 0).value/\((aa L k).slots.at 1).value=((aa L k).slots.at 1).value/\aa L k=aa L k/\k.oid=k.oid/\((aa L
  k).slots.at 0).value=((aa L k).slots.at 0).value/\((aa L k).slots.at 1).value=((aa L k).slots.at 1).value/\bI 1 g ((dG L k g).count+1)=bI 1 g ((dG L k g).count+1)/\
  true=true/\aa L k=aa L k/\k.oid=k.oid/\((aa L k).slots.at 0).value=((aa L k).slots.at 0).value/\((aa L k).slots.at 1).value=((aa L k).slots.at 1).value/\dG L k
  g=dG L k g/\dG L k g=dG L k g/\bI 1 g ((dG L k g).count+1)=bI 1 g ((dG L k g).count+1)/\aa L k=aa L k/\k.oid=k.oid/\((aa L k).slots.at 0).value=
  ((aa L k).slots.at 0).value/\((aa L k).slots.at 1).value=((aa L k).slots.at 1).value/\r0=r0))/\(decide (g_1<=((aa L k).slots.at 1).value)=false->true=true/\true=true/\
  aQ IntKind.i64 (((aa L k).slots.at 1).value-n)/\aQ IntKind.i64 (((aa L k).slots.at 1).value-n+1)/\true=true/\true=true/\true=true/\true=true/\true=true/\aQ
  IntKind.i64 (((aa L k).slots.at 1).value-n)/\true=true/\true=true/\true=true/\(aE L).le 1000/\(ie L (jP L k n g)=true->(∃g_2,pn L (bc L k n) g_2/\Value.slice
  none 0 0=Value.slice none 0 0/\0=g_2/\L=j5 L (bc L k n) g_2/\k=k/\n=n/\void=void/\k=k/\aa L k=aa L k/\k.oid=k.oid/\((aa L k).slots.at 0).value=((aa L
  k).slots.at 0).value/\((aa L k).slots.at 1).value=((aa L k).slots.at 1).value/\aa L k=aa L k/\(aa L k).slots.at 0=(aa L k).slots.at 0/\(aa L k).slots.at 1=
  (aa L k).slots.at 1/\aa L k=aa L k/\k.oid=k.oid/\((aa L k).slots.at 0).value=((aa L k).slots.at 0).value/\((aa L k).slots.at 1).value=((aa L k).slots.at 1).value
  /\jP L k n g=jP L k n g/\k=k/\aa L k=aa L k/\k.oid=k.oid/\((aa L k).slots.at 0).value=((aa L k).slots.at 0).value/\((aa L k).slots.at 1).value=((aa L
  k).slots.at 1).value/\aa L k=aa L k/\(aa L k).slots.at 0=(aa L k).slots.at 0/\(aa L k).slots.at 1=(aa L k).slots.at 1/\aa L k=aa L k/\k.oid=k.oid/\
  ((aa L k).slots.at 0).value=((aa L k).slots.at 0).value/\((aa L k).slots.at 1).value=((aa L k).slots.at 1).value/\aa L k=aa L k/\k.oid=k.oid/\((aa L k).slots.at
  0).value=((aa L k).slots.at 0).value/\((aa L k).slots.at 1).value=((aa L k).slots.at 1).value/\bI 1 g ((dG L k g).count+1)=bI 1 g ((dG L k g).count+1)/\true=true
  /\aa L k=aa L k/\k.oid=k.oid/\((aa L k).slots.at 0).value=((aa L k).slots.at 0).value/\((aa L k).slots.at 1).value=((aa L k).slots.at 1).value/\dG L k g=dG L k
  g/\dG L k g=dG L k g/\bI 1 g ((dG L k g).count+1)=bI 1 g ((dG L k g).count+1)/\aa L k=aa L k/\k.oid=k.oid/\((aa L k).slots.at 0).value=((aa L
  k).slots.at 0).value/\((aa L k).slots.at 1).value=((aa L k).slots.at 1).value/\zm L k n g=zm L k n g/\lK (((aa L k).slots.at 1).value-n+1)=lK (((aa L k).slots.at
  1).value-n+1)/\lK ((aa L k).slots.at 1).value=lK ((aa L k).slots.at 1).value/\yP L k n g=yP L k n g/\lK (((aa L k).slots.at 1).value-n)=lK (((aa L k).slots.at
  1).value-n))/\∀(g_2:Int),pn L (bc L k n) g_2->(decide (g_2<0)=true->False)/\(decide (g_2<0)=false->(Key.mk 4 g ((dG L k g).count+1) (bI 1 g ((dG L k g).count+
  1)).call (bI 1 g ((dG L k g).count+1)).rights (bI 1 g ((dG L k g).count+1)).value=bJ L k n/\0=bN L k n)/\j5 L (bc L k n) g_2=bc L k n))/\(ie L (jP L k n
  g)=false->(∃g_2,pn L (bc L k n) g_2/\en (aE (cz L (jP L k n g)))=en (aE (cz L (jP L k n g)))/\0=g_2/\L=j5 L (bc L k n) g_2/\k=k/\n=n/\void=void/\k
  =k/\aa L k=aa L k/\k.oid=k.oid/\((aa L k).slots.at 0).value=((aa L k).slots.at 0).value/\((aa L k).slots.at 1).value=((aa L k).slots.at 1).value/\aa L k=
  aa L k/\(aa L k).slots.at 0=(aa L k).slots.at 0/\(aa L k).slots.at 1=(aa L k).slots.at 1/\aa L k=aa L k/\k.oid=k.oid/\((aa L k).slots.at 0).value=((aa
  L k).slots.at 0).value/\((aa L k).slots.at 1).value=((aa L k).slots.at 1).value/\jP L k n g=jP L k n g/\k=k/\aa L k=aa L k/\k.oid=k.oid/\((aa L k).slots.at
  0).value=((aa L k).slots.at 0).value/\((aa L k).slots.at 1).value=((aa L k).slots.at 1).value/\aa L k=aa L k/\(aa L k).slots.at 0=(aa L k).slots.at 0/\(aa L
  k).slots.at 1=(aa L k).slots.at 1/\aa L k=aa L k/\k.oid=k.oid/\((aa L k).slots.at 0).value=((aa L k).slots.at 0).value/\((aa L k).slots.at 1).value=((aa L
  k).slots.at 1).value/\aa L k=aa L k/\k.oid=k.oid/\((aa L k).slots.at 0).value=((aa L k).slots.at 0).value/\((aa L k).slots.at 1).value=((aa L k).slots.at 1).value/\
  bI 1 g ((dG L k g).count+1)=bI 1 g ((dG L k g).count+1)/\true=true/\aa L k=aa L k/\k.oid=k.oid/\((aa L k).slots.at 0).value=((aa L k).slots.at 0).value/\
  ((aa L k).slots.at 1).value=((aa L k).slots.at 1).value/\dG L k g=dG L k g/\dG L k g=dG L k g/\bI 1 g ((dG L k g).count+1)=bI 1 g ((dG L k g).count+1)/\
  aa L k=aa L k/\k.oid=k.oid/\((aa L k).slots.at 0).value=((aa L k).slots.at 0).value/\((aa L k).slots.at 1).value=((aa L k).slots.at 1).value/\zm L k n g=zm L k
  n g/\lK (((aa L k).slots.at 1).value-n+1)=lK (((aa L k).slots.at 1).value-n+1)/\lK ((aa L k).slots.at 1).value=lK ((aa L k).slots.at 1).value/\yP L k n g=yP
  L k n g/\lK (((aa L k).slots.at 1).value-n)=lK (((aa L k).slots.at 1).value-n)/\cz L (jP L k n g)=cz L (jP L k n g))/\∀(g_2:Int),pn L (bc L k n) g_2->
  (decide (g_2<en (aE (cz L (jP L k n g))))=true->(0<=g_2/\g_2< ↑(aE (cz L (jP L k n g))))/\g_2.toNat<aE (cz L (jP L k n g))/\true=true/\aQ IntKind.i64 (g_2+1)/\
  ∃g',pn L (bc L k n) g'/\(en (aE (cz L (bc L k n)))-g').toNat<(en (aE (cz L (bc L k n)))-g_2).toNat/\en (aE (cz L (jP L k n g)))=en (aE (cz L (jP L
  k n g)))/\g_2+1=g'/\cc (j5 L (bc L k n) g_2) (aq (cz L (jP L k n g)) g_2.toNat 0) (aH (jP L k n g) (aq (cz L (jP L k n g)) g_2.toNat 0))=j5 L (bc L k n) g'/\
  k=k/\n=n/\void=void/\k=k/\aa L k=aa L k/\k.oid=k.oid/\((aa L k).slots.at 0).value=((aa L k).slots.at 0).value/\((aa L k).slots.at 1).value=((aa L
  k).slots.at 1).value/\aa L k=aa L k/\(aa L k).slots.at 0=(aa L k).slots.at 0/\(aa L k).slots.at 1=(aa L k).slots.at 1/\aa L k=aa L k/\k.oid=k.oid/\
  ((aa L k).slots.at 0).value=((aa L k).slots.at 0).value/\((aa L k).slots.at 1).value=((aa L k).slots.at 1).value/\jP L k n g=jP L k n g/\k=k/\aa L k=aa L k/\
  k.oid=k.oid/\((aa L k).slots.at 0).value=((aa L k).slots.at 0).value/\((aa L k).slots.at 1).value=((aa L k).slots.at 1).value/\aa L k=aa L k/\(aa L k).slots.at 0
  =(aa L k).slots.at 0/\(aa L k).slots.at 1=(aa L k).slots.at 1/\aa L k=aa L k/\k.oid=k.oid/\((aa L k).slots.at 0).value=((aa L k).slots.at 0).value/\((aa L
  k).slots.at 1).value=((aa L k).slots.at 1).value/\aa L k=aa L k/\k.oid=k.oid/\((aa L k).slots.at 0).value=((aa L k).slots.at 0).value/\((aa L k).slots.at 1).value=
  ((aa L k).slots.at 1).value/\bI 1 g ((dG L k g).count+1)=bI 1 g ((dG L k g).count+1)/\true=true/\aa L k=aa L k/\k.oid=k.oid/\((aa L k).slots.at 0).value=
  ((aa L k).slots.at 0).value/\((aa L k).slots.at 1).value=((aa L k).slots.at 1).value/\dG L k g=dG L k g/\dG L k g=dG L k g/\bI 1 g ((dG L k g).count+1)=bI 1
  g ((dG L k g).count+1)/\aa L k=aa L k/\k.oid=k.oid/\((aa L k).slots.at 0).value=((aa L k).slots.at 0).value/\((aa L k).slots.at 1).value=((aa L k).slots.at
  1).value/\zm L k n g=zm L k n g/\lK (((aa L k).slots.at 1).value-n+1)=lK (((aa L k).slots.at 1).value-n+1)/\lK ((aa L k).slots.at 1).value=lK ((aa L
  k).slots.at 1).value/\yP L k n g=yP L k n g/\lK (((aa L k).slots.at 1).value-n)=lK (((aa L k).slots.at 1).value-n)/\cz L (jP L k n g)=cz L (jP L k n g))/\(decide
  (g_2<en (aE (cz L (jP L k n g))))=false->(Key.mk 4 g ((dG L k g).count+1) (bI 1 g ((dG L k g).count+1)).call (bI 1 g ((dG L k g).count+1)).rights (bI 1 g ((dG L k
  g).count+1)).value=bJ L k n/\0=bN L k n)/\j5 L (bc L k n) g_2=bc L k n)))))))/\(decide (g<=((aa L k).slots.at 1).value)=false->true=true/\(void=bJ L k n/\221
  =bN L k n)/\L=bc L k n))))))))):=by
 refine⟨rfl,rfl,fun h=>nc (qA (C2 h) (by omega)) (by omega),fun h=>⟨rfl,fun h2=>nc (qA (Q6 h h2) (by omega)) (by omega),fun h2=>⟨rfl,fun h3=>nc (qA (Rl h h2 h3) (by omega)) (by omega),fun h3=>?_⟩⟩⟩
 obtain⟨e,e1,e2⟩:=L7 h h2 h3;obtain⟨_,a0,a1,a2,a3,a4⟩:=jT e;have hkd:=wK (kQ h2).1 (kQ h2).2;have hlen:=lE hL;have hll:aE L=L.length:=rfl;have h3':=h3;rw[e1,e2]at h3';rw[e1,e2];have hr:∀x:Int,-1000<=x->x<=1000->aQ IntKind.i64 x:=fun x h1 h2=>by simp only[aQ,cy];omega
 refine⟨fun _=>hr _ (by omega) (by omega),rfl,fun h4=>nc (E4 e (by simp only[Bool.not_eq_true',Bool.and_eq_false_iff,decide_eq_false_iff_not]at h4;omega)) (by omega),fun h4=>⟨rfl,(show L.length<=1000 by omega),fun hn=>?_,fun _=>⟨rfl,rfl,fun h'=>?_,fun _=>⟨rfl,fun h'=>?_,fun _=>⟨rfl,fun h'=>?_,fun _=>⟨rfl,rfl,rfl,fun r0=>?_⟩⟩⟩⟩⟩⟩
 ·exfalso
  have:=Tl hn;omega
 ·rw[h]at h';exact absurd h' (by decide)
 ·rw[h2]at h';exact absurd h' (by decide)
 ·rw[h3']at h';exact absurd h' (by decide)
 simp only[Bool.not_eq_false',Th,Ti]at h4;obtain⟨hn1,hn2⟩:=h4;have h0:=KM e hn1 hn2;have hcnt:∀j:Nat,j<L.length->0<=(aq L j free).count/\(aq L j free).count<=4294967295:=fun j hj=>⟨(jg (dt hL j hj)).1,(jg (dt hL j hj)).2.1⟩
 have hci:∀j:Nat,j<L.length->aQ IntKind.i64 ((aq L j free).count+1):=fun j hj=>by have:=hcnt j hj;simp only[aQ,cy];omega
 refine⟨⟨au L k,⟨by omega,by omega,vi⟩,rfl,?_⟩,fun g hg=>⟨fun hgl=>?_,fun hgl=>?_⟩⟩
 ·have hx:L=bz L (au L k) (au L k):=AY;(repeat' apply And.intro)<;>first|with_reducible rfl|exact hx
 ·obtain⟨g0,g1,g2⟩:=hg;have hgl:=Tl hgl;have hgn:g.toNat<L.length:=by omega
  have hgz:(bz L (au L k) g).length=L.length:=kq;have hO:dG L k g=aq L g.toNat free:=by unfold dG;rw[gw (by omega) (by omega),BE (by omega)]
  refine⟨rfl,rfl,fun hk0=>?_,fun hk0=>⟨fun hc=>?_,fun hc=>?_⟩⟩
  ·obtain⟨f1,f2⟩:=CR (o:=aq L g.toNat free) (by rw[<-hO];simpa using hk0)
   have hx:bz L (au L k) g=bz L (au L k) (g+1):=(Aq (by omega) f1).symm
   refine⟨rfl,hr _ (by omega) (by omega),g+1,⟨by omega,by omega,mI g2 f2⟩,by omega,rfl,?_⟩
   (repeat' apply And.intro)<;>first|with_reducible rfl|exact hx
  ·rw[hO]at hk0 hc;obtain⟨f1,f2⟩:=G7 (o:=aq L g.toNat free) (by simpa using hk0) (by have:=Tl hc;omega)
   have hp:=(lQ (L:=bz L (au L k) g) (i:=g) (by omega) (by omega) (hgz▸yM (dt hL g.toNat hgn))).1
   have hx:cc (bz L (au L k) g) g (Obj.mk 3 (dG L k g).count free.calls free.slots free.bytes)=bz L (au L k) (g+1):=by rw[hO];exact hp.trans (DT (by omega) (by omega) g0 f1)
   refine⟨rfl,rfl,hr _ (by omega) (by omega),g+1,⟨by omega,by omega,mI g2 f2⟩,by omega,rfl,?_⟩
   (repeat' apply And.intro)<;>first|with_reducible rfl|exact hx
  ·rw[hO]at hk0 hc;have hc:=Tk hc;have:=hcnt _ hgn;obtain⟨f1,f2⟩:=IM (o:=aq L g.toNat free) (by simpa using hk0) (by omega)
   obtain⟨i1,i2,i3,i4,i5,i6,i7,i8⟩:=Nm hL e hkd g0 hgl g2 f2;have hcg:aQ IntKind.i64 ((dG L k g).count+1):=by rw[hO];exact hci _ hgn
   refine⟨hcg,rfl,hcg,rfl,hr _ (by omega) (by omega),rfl,fun hc2=>nc (zM h0 (.inr (by rw[i1];simp only[Bool.not_eq_true',decide_eq_false_iff_not]at hc2;omega))) (by omega),fun hc2=>⟨rfl,rfl,fun r1=>⟨⟨au L k,⟨by omega,by omega,Dz (by omega)⟩,rfl,?_⟩,fun j hj=>⟨fun hjl=>?_,fun hjl=>?_⟩⟩⟩⟩
   ·(repeat' apply And.intro)<;>first|with_reducible rfl|exact hx
   ·obtain⟨j0,j1,j2⟩:=hj;have hjl:=Tl hjl;have hgj:aH (nC L k g) j=aq (cR L k) j.toNat free:=by rw[i3];exact gw (by omega) (by omega)
    rw[hgj];have hkk:=jg (dt i5 j.toNat (by omega))
    refine⟨rfl,rfl,hr _ (by omega) (by omega),rfl,fun hb=>⟨rfl,?_⟩,fun hb=>⟨rfl,hr _ (by omega) (by omega),j+1,⟨by omega,by omega,?_⟩,by omega,rfl,?_⟩⟩
    ·simp only[Bool.not_eq_true',Bool.or_eq_false_iff,decide_eq_false_iff_not]at hb;have hbz:kE (aq (cR L k) j.toNat free)=true:=by unfold kE;simp only[Bool.or_eq_true,Ti];omega
     exact nc (Ji h0 (Jf (by omega) (by omega) (by omega) (by omega) hbz)) (by omega)
    ·simp only[Bool.not_eq_false',Bool.or_eq_true,Ti]at hb;by_cases hjn:j<=ay L k-n
     ·exact Dz (by omega)
     ·have hbz:kE (aq (cR L k) j.toNat free)=false:=by unfold kE;simp only[Bool.or_eq_false_iff,decide_eq_false_iff_not];omega
      rw[MS (by omega) hbz];exact j2
    ·(repeat' apply And.intro)<;>first|with_reducible rfl|exact hx
   ·obtain⟨j0,j1,j2⟩:=hj;have hjl:=Tk hjl;have:j=ay L k+1:=by omega
    subst this;simp only[Bool.not_eq_false',Ti]at hc2;have hE:=Kk h0 (by rw[i1];omega) (by rw[i1];omega) j2
    obtain⟨l1,l2,l3,l4⟩:=KF hL e hkd e2 g0 hgl g2 f2 hE;rw[l1];have hul:(cz L (bc L k n)).length<=L.length:=KU;have hu:en (aE (cz L (bc L k n)))=((cz L (bc L k n)).length:Int):=rfl
    refine⟨rfl,rfl,hr _ (by omega) (by omega),hr _ (by omega) (by omega),rfl,rfl,rfl,rfl,rfl,hr _ (by omega) (by omega),rfl,rfl,rfl,(show L.length<=1000 by omega),fun hno=>?_,fun _=>⟨⟨0,⟨by omega,by omega⟩,rfl,rfl,?_⟩,fun t ht=>⟨fun htl=>?_,fun htl=>⟨⟨l4,hE.symm⟩,J9 l3 l2 ?_⟩⟩⟩⟩
    ·rw[Jh l3 (by omega)]at hno;exact absurd hno (by decide)
    ·have hx:L=j5 L (bc L k n) 0:=rfl;(repeat' apply And.intro)<;>first|with_reducible rfl|exact hx
    ·obtain⟨t0,t1⟩:=ht;have htl:=Tl htl;rw[hu]at htl;have hx:cc (j5 L (bc L k n) t) (aq (cz L (bc L k n)) t.toNat 0) (aH (bc L k n) (aq (cz L (bc L k n)) t.toNat 0))=j5 L (bc L k n) (t+1):=Hi t0;refine⟨⟨t0,htl⟩,(show t.toNat<(cz L (bc L k n)).length by omega),rfl,hr _ (by omega) (by omega),t+1,⟨by omega,by omega⟩,by rw[hu];omega,rfl,rfl,?_⟩
     (repeat' apply And.intro)<;>first|with_reducible rfl|exact hx
    ·have htl:=Tk htl;rw[hu]at htl;obtain⟨t0,t1⟩:=ht;omega
 ·obtain⟨g0,g1,g2⟩:=hg;have hgl:=Tk hgl;have:g=ay L k+1:=by omega
  subst this;obtain⟨m1,m2,m3⟩:=FY 1 g2;exact⟨rfl,nc (zM h0 (.inl (by unfold dQ;rw[m1];omega))) (by omega)⟩
theorem Ed (L:List Sx.Obj) (k:Key) (n:Int) (hL:an L):ai Tryz.prog 85 [.lp 0 0,.key k,.it .i64 n] [.store tS eS L] (zO (.tp [.key (bJ L k n),.it .i64 (bN L k n)]) (bc L k n)) (fun _ _=>False):=
 aK (inl:=(fun f=>f==153||f==152||f==158||f==159||f==160||f==161||f==162||f==163||f==1000000+186)) (ann:=(me [(3000+186,1,RJ [0,1] (fun g=> [(3,.it .i64 g)]) 11 (fun g=> .store tS eS (bz L (au L k) g)) (gD L k) (A0 (ay L k) 1)),(9000+186,1,PX [0,1] (fun g=> [(3,.it .i64 g)]) (np L k n) (A0 (ay L k) 1)),(85,16,RJ [0,6,7,9,10,90,91] (fun g=> [(92,.it .i64 g)]) 0 (fun g=> .store tS eS (j5 L (bc L k n) g)) (pn L (bc L k n)) (en (aE (cz L (bc L k n)))))])) (ab aX (ab bp (ab fM (ab pk ak)))) (aG c9 (aG yi (aG BI aA))) (dO fy) (E1 L k n hL) (by kernel_rfl)
theorem Ee:ql Tryz.prog 85 IE:=
 lh (m:=fun x=>Rv.cn x 0) (rX Jv (fun _=>rfl)) (fun _=>rfl) (fun _ _=>rfl) (fun x=>aK (inl:=(fun f=>f==153||f==152||f==158||f==159||f==160||f==161||f==162||f==163||f==1000000+186)) (ann:=aL) (ab aX (ab bp (ab fM (ab pk ak)))) (aG c9 (aG yi (aG BI aA))) (dO fy) (Cl x.1 x.2.1) (by kernel_rfl)) (fun x=>aK (inl:=(fun f=>f==153||f==152||f==158||f==159||f==160||f==161||f==162||f==163||f==1000000+186)) (ann:=aL) (ab aX (ab bp (ab fM (ab pk ak)))) (aG c9 (aG yi (aG BI aA))) (dO fy) (BN x.1 x.2.1) (by kernel_rfl)) fun L x hL _ _=>Ed L x.1 x.2.1 hL
end Go.Proofs.YtghpaegglbbocaaGreat
