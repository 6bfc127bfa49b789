import Derived.Test.YtlblcfaclmpekaaGreatCB
import Derived.Test.YtlblcfaclmpekaaGreatCQ
set_option linter.unusedSimpArgs false
set_option linter.unusedVariables false
namespace Go.Proofs.YtlblcfaclmpekaaGreat
open Go.Sx
set_option maxRecDepth 100000
theorem CH (k:Key) (n:Int):
 true=true/\true=true/\((!decide (0<ah []))=true->void=b9 [] k n/\1=bY [] k n)/\((!decide (0<ah []))=false->true=true/\((!(aQ [] k&&decide (k.kind=4)))=
  true->void=b9 [] k n/\190=bY [] k n)/\((!(aQ [] k&&decide (k.kind=4)))=false->true=true/\((!(decide (((aa [] k).slots.at 0).kind=1)&&decide (((aa [] k).slots.at
  1).kind=1)&&decide (0<=((aa [] k).slots.at 0).value)&&decide (((aa [] k).slots.at 0).value<=((aa [] k).slots.at 1).value)&&decide (((aa [] k).slots.at 1).value<ah [])))
  =true->void=b9 [] k n/\220=bY [] k n)/\((!(decide (((aa [] k).slots.at 0).kind=1)&&decide (((aa [] k).slots.at 1).kind=1)&&decide (0<=((aa [] k).slots.at 0).value)&&
  decide (((aa [] k).slots.at 0).value<=((aa [] k).slots.at 1).value)&&decide (((aa [] k).slots.at 1).value<ah [])))=false->(decide (1<=n)=true->aM IntKind.i64 (((aa []
  k).slots.at 1).value-((aa [] k).slots.at 0).value))/\true=true/\((!(decide (1<=n)&&decide (n<=((aa [] k).slots.at 1).value-((aa [] k).slots.at 0).value)))=true->void=b9
  [] k n/\4=bY [] k n)/\((!(decide (1<=n)&&decide (n<=((aa [] k).slots.at 1).value-((aa [] k).slots.at 0).value)))=false->true=true/\true=true/\true=true/\((!decide (0<
  ah []))=true->void=b9 [] k n/\1=bY [] k n)/\((!decide (0<ah []))=false->true=true/\((!(aQ [] k&&decide (k.kind=4)))=true->void=b9 [] k n/\190=bY [] k
  n)/\((!(aQ [] k&&decide (k.kind=4)))=false->true=true/\((!(decide (((aa [] k).slots.at 0).kind=1)&&decide (((aa [] k).slots.at 1).kind=1)&&decide (0<=((aa []
  k).slots.at 0).value)&&decide (((aa [] k).slots.at 0).value<=((aa [] k).slots.at 1).value)&&decide (((aa [] k).slots.at 1).value<ah [])))=true->void=b9 [] k n/\220=
  bY [] k n)/\((!(decide (((aa [] k).slots.at 0).kind=1)&&decide (((aa [] k).slots.at 1).kind=1)&&decide (0<=((aa [] k).slots.at 0).value)&&decide (((aa [] k).slots.at
  0).value<=((aa [] k).slots.at 1).value)&&decide (((aa [] k).slots.at 1).value<ah [])))=false->true=true/\true=true/\true=true/\∀(r0:Loop),False))))))):=by
 exact⟨rfl,rfl,fun h=>(nP (sb (DM h) (by omega)) (by omega)).1,fun h=>absurd h (by decide)⟩
theorem C3 (k:Key) (n:Int):
 true=true/\true=true/\((!decide (0<ah []))=true->void=b9 [] k n/\1=bY [] k n)/\((!decide (0<ah []))=false->true=true/\((!(aQ [] k&&decide (k.kind=4)))=
  true->void=b9 [] k n/\190=bY [] k n)/\((!(aQ [] k&&decide (k.kind=4)))=false->true=true/\((!(decide (((aa [] k).slots.at 0).kind=1)&&decide (((aa [] k).slots.at
  1).kind=1)&&decide (0<=((aa [] k).slots.at 0).value)&&decide (((aa [] k).slots.at 0).value<=((aa [] k).slots.at 1).value)&&decide (((aa [] k).slots.at 1).value<ah [])))
  =true->void=b9 [] k n/\220=bY [] k n)/\((!(decide (((aa [] k).slots.at 0).kind=1)&&decide (((aa [] k).slots.at 1).kind=1)&&decide (0<=((aa [] k).slots.at 0).value)&&
  decide (((aa [] k).slots.at 0).value<=((aa [] k).slots.at 1).value)&&decide (((aa [] k).slots.at 1).value<ah [])))=false->(decide (1<=n)=true->aM IntKind.i64 (((aa []
  k).slots.at 1).value-((aa [] k).slots.at 0).value))/\true=true/\((!(decide (1<=n)&&decide (n<=((aa [] k).slots.at 1).value-((aa [] k).slots.at 0).value)))=true->void=b9
  [] k n/\4=bY [] k n)/\((!(decide (1<=n)&&decide (n<=((aa [] k).slots.at 1).value-((aa [] k).slots.at 0).value)))=false->true=true/\False)))):=by
 exact⟨rfl,rfl,fun h=>(nP (sb (DM h) (by omega)) (by omega)).1,fun h=>absurd h (by decide)⟩
theorem FP (L:List Sx.Obj) (k:Key) (n:Int) (hL:ar L):
 true=true/\true=true/\((!decide (0<ah L))=true->(void=b9 L k n/\1=bY L k n)/\L=bk L k n)/\((!decide (0<ah L))=false->true=true/\((!(aQ L k&&decide
  (k.kind=4)))=true->(void=b9 L k n/\190=bY L k n)/\L=bk L k n)/\((!(aQ L k&&decide (k.kind=4)))=false->true=true/\((!(decide (((aa L k).slots.at 0).kind=1)&&
  decide (((aa L k).slots.at 1).kind=1)&&decide (0<=((aa L k).slots.at 0).value)&&decide (((aa L k).slots.at 0).value<=((aa L k).slots.at 1).value)&&decide (((aa L
  k).slots.at 1).value<ah L)))=true->(void=b9 L k n/\220=bY L k n)/\L=bk L k n)/\((!(decide (((aa L k).slots.at 0).kind=1)&&decide (((aa L k).slots.at 1).kind=1)
  &&decide (0<=((aa L k).slots.at 0).value)&&decide (((aa L k).slots.at 0).value<=((aa L k).slots.at 1).value)&&decide (((aa L k).slots.at 1).value<ah L)))=false->(decide
  (1<=n)=true->aM IntKind.i64 (((aa L k).slots.at 1).value-((aa L k).slots.at 0).value))/\true=true/\((!(decide (1<=n)&&decide (n<=((aa L k).slots.at 1).value-((aa L
  k).slots.at 0).value)))=true->(void=b9 L k n/\4=bY L k n)/\L=bk L k n)/\((!(decide (1<=n)&&decide (n<=((aa L k).slots.at 1).value-((aa L k).slots.at 0).value)))=
  false->true=true/\(aq L).le 1000/\(aU L=true->true=true/\true=true/\((!decide (0<ah []))=true->(void=b9 L k n/\1=bY L k n)/\L=bk L k n)/\((!decide (0<
  ah []))=false->true=true/\((!(aQ [] k&&decide (k.kind=4)))=true->(void=b9 L k n/\190=bY L k n)/\L=bk L k n)/\((!(aQ [] k&&decide (k.kind=4)))=false->true=
  true/\((!(decide (((aa [] k).slots.at 0).kind=1)&&decide (((aa [] k).slots.at 1).kind=1)&&decide (0<=((aa [] k).slots.at 0).value)&&decide (((aa [] k).slots.at 0).value<=
  ((aa [] k).slots.at 1).value)&&decide (((aa [] k).slots.at 1).value<ah [])))=true->(void=b9 L k n/\220=bY L k n)/\L=bk L k n)/\((!(decide (((aa [] k).slots.at
  0).kind=1)&&decide (((aa [] k).slots.at 1).kind=1)&&decide (0<=((aa [] k).slots.at 0).value)&&decide (((aa [] k).slots.at 0).value<=((aa [] k).slots.at 1).value)&&decide
  (((aa [] k).slots.at 1).value<ah [])))=false->true=true/\true=true/\true=true/\∀(r0:Loop),(∃g,hS L k g/\False)/\∀(g:Int),hS L k g->(decide (g<=((aa []
  k).slots.at 1).value)=true->r0=r0/\r0=r0/\((!decide ((aC [] g).kind=0))=true->r0=r0/\aM IntKind.i64 (g+1)/\∃g',hS L k g'/\(aH L k+1-g').toNat<(aH L k+1
  -g).toNat/\g+1=g'/\L=L/\k=k/\n=n/\void=void/\k=k/\aa L k=aa L k/\k.oid=k.oid/\((aa L k).slots.at 0).value=((aa L k).slots.at 0).value/\((aa L
  k).slots.at 1).value=((aa L k).slots.at 1).value/\aa L k=aa L k/\(aa L k).slots.at 0=(aa L k).slots.at 0/\(aa L k).slots.at 1=(aa L k).slots.at 1/\aa L k=
  aa L k/\k.oid=k.oid/\((aa L k).slots.at 0).value=((aa L k).slots.at 0).value/\((aa L k).slots.at 1).value=((aa L k).slots.at 1).value/\bJ L (aD L k) g=bJ L
  (aD L k) g'/\aa [] k=aa [] k/\Value.pointer none=Value.pointer none/\k.oid=k.oid/\((aa [] k).slots.at 0).value=((aa [] k).slots.at 0).value/\((aa [] k).slots.at
  1).value=((aa [] k).slots.at 1).value/\aa [] k=aa [] k/\(aa [] k).slots.at 0=(aa [] k).slots.at 0/\(aa [] k).slots.at 1=(aa [] k).slots.at 1/\aa [] k=
  aa [] k/\Value.pointer none=Value.pointer none/\k.oid=k.oid/\((aa [] k).slots.at 0).value=((aa [] k).slots.at 0).value/\((aa [] k).slots.at 1).value=((aa [] k).slots.at
  1).value/\aa [] k=aa [] k/\Value.pointer none=Value.pointer none/\k.oid=k.oid/\((aa [] k).slots.at 0).value=((aa [] k).slots.at 0).value/\((aa [] k).slots.at 1).value=
  ((aa [] k).slots.at 1).value/\void=void/\false=false/\aa [] k=aa [] k/\Value.pointer none=Value.pointer none/\k.oid=k.oid/\((aa [] k).slots.at 0).value=((aa []
  k).slots.at 0).value/\((aa [] k).slots.at 1).value=((aa [] k).slots.at 1).value/\r0=r0)/\((!decide ((aC [] g).kind=0))=false->(decide ((aC [] g).count=4294967295)=true->
  true=true/\r0=r0/\aM IntKind.i64 (g+1)/\∃g',hS L k g'/\(aH L k+1-g').toNat<(aH L k+1-g).toNat/\g+1=g'/\L=L/\k=k/\n=n/\void=void/\k=k/\aa L
  k=aa L k/\k.oid=k.oid/\((aa L k).slots.at 0).value=((aa L k).slots.at 0).value/\((aa L k).slots.at 1).value=((aa L k).slots.at 1).value/\aa L k=aa L k/\
  (aa L k).slots.at 0=(aa L k).slots.at 0/\(aa L k).slots.at 1=(aa L k).slots.at 1/\aa L k=aa L k/\k.oid=k.oid/\((aa L k).slots.at 0).value=((aa L
  k).slots.at 0).value/\((aa L k).slots.at 1).value=((aa L k).slots.at 1).value/\bJ L (aD L k) g=bJ L (aD L k) g'/\aa [] k=aa [] k/\Value.pointer none=
  Value.pointer none/\k.oid=k.oid/\((aa [] k).slots.at 0).value=((aa [] k).slots.at 0).value/\((aa [] k).slots.at 1).value=((aa [] k).slots.at 1).value/\aa [] k=aa []
  k/\(aa [] k).slots.at 0=(aa [] k).slots.at 0/\(aa [] k).slots.at 1=(aa [] k).slots.at 1/\aa [] k=aa [] k/\Value.pointer none=Value.pointer none/\k.oid=k.oid/\
  ((aa [] k).slots.at 0).value=((aa [] k).slots.at 0).value/\((aa [] k).slots.at 1).value=((aa [] k).slots.at 1).value/\aa [] k=aa [] k/\Value.pointer none=
  Value.pointer none/\k.oid=k.oid/\((aa [] k).slots.at 0).value=((aa [] k).slots.at 0).value/\((aa [] k).slots.at 1).value=((aa [] k).slots.at 1).value/\void=void/\false=
  false/\aa [] k=aa [] k/\Value.pointer none=Value.pointer none/\k.oid=k.oid/\((aa [] k).slots.at 0).value=((aa [] k).slots.at 0).value/\((aa [] k).slots.at 1).value=
  ((aa [] k).slots.at 1).value/\r0=r0)/\(decide ((aC [] g).count=4294967295)=false->aM IntKind.i64 ((aC [] g).count+1)/\true=true/\aM IntKind.i64 ((aC [] g).count+1)/\
  r0=r0/\aM IntKind.i64 (((aa [] k).slots.at 1).value-n)/\true=true/\((!decide ((bX 1 g ((aC [] g).count+1)).oid<=((aa [] k).slots.at 1).value-n))=true->(void=b9 L
  k n/\221=bY L k n)/\L=bk L k n)/\((!decide ((bX 1 g ((aC [] g).count+1)).oid<=((aa [] k).slots.at 1).value-n))=false->true=true/\true=true/\∀(r0:Loop),(∃g_1,
  oE L k n g_1/\((aa [] k).slots.at 0).value=g_1/\L=L/\k=k/\n=n/\void=void/\k=k/\aa L k=aa L k/\k.oid=k.oid/\((aa L k).slots.at 0).value=((aa L
  k).slots.at 0).value/\((aa L k).slots.at 1).value=((aa L k).slots.at 1).value/\aa L k=aa L k/\(aa L k).slots.at 0=(aa L k).slots.at 0/\(aa L k).slots.at 1=
  (aa L k).slots.at 1/\aa L k=aa L k/\k.oid=k.oid/\((aa L k).slots.at 0).value=((aa L k).slots.at 0).value/\((aa L k).slots.at 1).value=((aa L k).slots.at 1).value
  /\bJ L (aD L k) g=bJ L (aD L k) g/\aa [] k=aa [] k/\Value.pointer none=Value.pointer none/\k.oid=k.oid/\((aa [] k).slots.at 0).value=((aa [] k).slots.at
  0).value/\((aa [] k).slots.at 1).value=((aa [] k).slots.at 1).value/\aa [] k=aa [] k/\(aa [] k).slots.at 0=(aa [] k).slots.at 0/\(aa [] k).slots.at 1=(aa []
  k).slots.at 1/\aa [] k=aa [] k/\Value.pointer none=Value.pointer none/\k.oid=k.oid/\((aa [] k).slots.at 0).value=((aa [] k).slots.at 0).value/\((aa [] k).slots.at
  1).value=((aa [] k).slots.at 1).value/\aa [] k=aa [] k/\Value.pointer none=Value.pointer none/\k.oid=k.oid/\((aa [] k).slots.at 0).value=((aa [] k).slots.at 0).value/\
  ((aa [] k).slots.at 1).value=((aa [] k).slots.at 1).value/\bX 1 g ((aC [] g).count+1)=bX 1 g ((aC [] g).count+1)/\true=true/\aa [] k=aa [] k/\Value.pointer
  none=Value.pointer none/\k.oid=k.oid/\((aa [] k).slots.at 0).value=((aa [] k).slots.at 0).value/\((aa [] k).slots.at 1).value=((aa [] k).slots.at 1).value/\aC [] g=
  aC [] g/\aC [] g=aC [] g/\bX 1 g ((aC [] g).count+1)=bX 1 g ((aC [] g).count+1)/\aa [] k=aa [] k/\Value.pointer none=Value.pointer none/\k.oid=k.oid/\
  ((aa [] k).slots.at 0).value=((aa [] k).slots.at 0).value/\((aa [] k).slots.at 1).value=((aa [] k).slots.at 1).value/\r0=r0)/\∀(g_1:Int),oE L k n g_1->(decide (g_1<=
  ((aa [] k).slots.at 1).value)=true->r0=r0/\r0=r0/\aM IntKind.i64 (((aa [] k).slots.at 1).value-n)/\true=true/\((!(decide (g_1<=((aa [] k).slots.at 1).value-n)||decide
  ((aC [] g_1).kind=0)||decide ((aC [] g_1).kind=3)))=true->r0=r0/\(void=b9 L k n/\221=bY L k n)/\L=bk L k n)/\((!(decide (g_1<=((aa [] k).slots.at 1).value-n)
  ||decide ((aC [] g_1).kind=0)||decide ((aC [] g_1).kind=3)))=false->r0=r0/\aM IntKind.i64 (g_1+1)/\∃g',oE L k n g'/\(aH L k+1-g').toNat<(aH L k+1-
  g_1).toNat/\g_1+1=g'/\L=L/\k=k/\n=n/\void=void/\k=k/\aa L k=aa L k/\k.oid=k.oid/\((aa L k).slots.at 0).value=((aa L k).slots.at 0).value/\((aa L
  k).slots.at 1).value=((aa L k).slots.at 1).value/\aa L k=aa L k/\(aa L k).slots.at 0=(aa L k).slots.at 0/\(aa L k).slots.at 1=(aa L k).slots.at 1/\aa L k=
  aa L k/\k.oid=k.oid/\((aa L k).slots.at 0).value=((aa L k).slots.at 0).value/\((aa L k).slots.at 1).value=((aa L k).slots.at 1).value/\bJ L (aD L k) g=bJ L
  (aD L k) g/\aa [] k=aa [] k/\Value.pointer none=Value.pointer none/\k.oid=k.oid/\((aa [] k).slots.at 0).value=((aa [] k).slots.at 0).value/\((aa [] k).slots.at
  1).value=((aa [] k).slots.at 1).value/\aa [] k=aa [] k/\(aa [] k).slots.at 0=(aa [] k).slots.at 0/\(aa [] k).slots.at 1=(aa [] k).slots.at 1/\aa [] k=
  aa [] k/\Value.pointer none=Value.pointer none/\k.oid=k.oid/\((aa [] k).slots.at 0).value=((aa [] k).slots.at 0).value/\((aa [] k).slots.at 1).value=((aa [] k).slots.at
  1).value/\aa [] k=aa [] k/\Value.pointer none=Value.pointer none/\k.oid=k.oid/\((aa [] k).slots.at 0).value=((aa [] k).slots.at 0).value/\((aa [] k).slots.at 1).value=
  ((aa [] k).slots.at 1).value/\bX 1 g ((aC [] g).count+1)=bX 1 g ((aC [] g).count+1)/\true=true/\aa [] k=aa [] k/\Value.pointer none=Value.pointer none/\k.oid
  =k.oid/\((aa [] k).slots.at 0).value=((aa [] k).slots.at 0).value/\((aa [] k).slots.at 1).value=((aa [] k).slots.at 1).value/\aC [] g=aC [] g/\aC [] g=aC [] g/\
  bX 1 g ((aC [] g).count+1)=bX 1 g ((aC [] g).count+1)/\aa [] k=aa [] k/\Value.pointer none=Value.pointer none/\k.oid=k.oid/\((aa [] k).slots.at 0).value=
  ((aa [] k).slots.at 0).value/\((aa [] k).slots.at 1).value=((aa [] k).slots.at 1).value/\r0=r0))/\(decide (g_1<=((aa [] k).slots.at 1).value)=false->true=true/\true=true
  /\aM IntKind.i64 (((aa [] k).slots.at 1).value-n)/\aM IntKind.i64 (((aa [] k).slots.at 1).value-n+1)/\true=true/\true=true/\true=true/\true=true/\true=true/\aM
  IntKind.i64 (((aa [] k).slots.at 1).value-n)/\true=true/\true=true/\true=true/\False)))))/\(decide (g<=((aa [] k).slots.at 1).value)=false->true=true/\(void=b9 L k n/\
  221=bY L k n)/\L=bk L k n)))))/\(aU L=false->true=true/\true=true/\((!decide (0<ah L))=true->(void=b9 L k n/\1=bY L k n)/\L=bk L k n)/\((!decide (0
  <ah L))=false->true=true/\((!(aQ L k&&decide (k.kind=4)))=true->(void=b9 L k n/\190=bY L k n)/\L=bk L k n)/\((!(aQ L k&&decide (k.kind=4)))=false->true=
  true/\((!(decide (((aa L k).slots.at 0).kind=1)&&decide (((aa L k).slots.at 1).kind=1)&&decide (0<=((aa L k).slots.at 0).value)&&decide (((aa L k).slots.at 0).value<=
  ((aa L k).slots.at 1).value)&&decide (((aa L k).slots.at 1).value<ah L)))=true->(void=b9 L k n/\220=bY L k n)/\L=bk L k n)/\((!(decide (((aa L k).slots.at
  0).kind=1)&&decide (((aa L k).slots.at 1).kind=1)&&decide (0<=((aa L k).slots.at 0).value)&&decide (((aa L k).slots.at 0).value<=((aa L k).slots.at 1).value)&&decide
  (((aa L k).slots.at 1).value<ah L)))=false->true=true/\true=true/\true=true/\∀(r0:Loop),(∃g,hS L k g/\((aa L k).slots.at 0).value=g/\L=L/\k=k/\n=n/\
  void=void/\k=k/\aa L k=aa L k/\k.oid=k.oid/\((aa L k).slots.at 0).value=((aa L k).slots.at 0).value/\((aa L k).slots.at 1).value=((aa L k).slots.at 1).value/\
  aa L k=aa L k/\(aa L k).slots.at 0=(aa L k).slots.at 0/\(aa L k).slots.at 1=(aa L k).slots.at 1/\aa L k=aa L k/\k.oid=k.oid/\((aa L k).slots.at
  0).value=((aa L k).slots.at 0).value/\((aa L k).slots.at 1).value=((aa L k).slots.at 1).value/\L=bJ L (aD L k) g/\k=k/\aa L k=aa L k/\k.oid=k.oid/\((aa
  L k).slots.at 0).value=((aa L k).slots.at 0).value/\((aa L k).slots.at 1).value=((aa L k).slots.at 1).value/\aa L k=aa L k/\(aa L k).slots.at 0=(aa L k).slots.at
  0/\(aa L k).slots.at 1=(aa L k).slots.at 1/\aa L k=aa L k/\k.oid=k.oid/\((aa L k).slots.at 0).value=((aa L k).slots.at 0).value/\((aa L k).slots.at 1).value=
  ((aa L k).slots.at 1).value/\aa L k=aa L k/\k.oid=k.oid/\((aa L k).slots.at 0).value=((aa L k).slots.at 0).value/\((aa L k).slots.at 1).value=((aa L k).slots.at
  1).value/\void=void/\false=false/\aa L k=aa L k/\k.oid=k.oid/\((aa L k).slots.at 0).value=((aa L k).slots.at 0).value/\((aa L k).slots.at 1).value=((aa L
  k).slots.at 1).value/\r0=r0)/\∀(g:Int),hS L k g->(decide (g<=((aa L k).slots.at 1).value)=true->r0=r0/\r0=r0/\((!decide ((dS L k g).kind=0))=true->r0=r0/\aM
  IntKind.i64 (g+1)/\∃g',hS L k g'/\(aH L k+1-g').toNat<(aH L k+1-g).toNat/\g+1=g'/\L=L/\k=k/\n=n/\void=void/\k=k/\aa L k=aa L k/\k.oid=
  k.oid/\((aa L k).slots.at 0).value=((aa L k).slots.at 0).value/\((aa L k).slots.at 1).value=((aa L k).slots.at 1).value/\aa L k=aa L k/\(aa L k).slots.at 0=
  (aa L k).slots.at 0/\(aa L k).slots.at 1=(aa L k).slots.at 1/\aa L k=aa L k/\k.oid=k.oid/\((aa L k).slots.at 0).value=((aa L k).slots.at 0).value/\((aa L
  k).slots.at 1).value=((aa L k).slots.at 1).value/\bJ L (aD L k) g=bJ L (aD L k) g'/\k=k/\aa L k=aa L k/\k.oid=k.oid/\((aa L k).slots.at 0).value=((aa
  L k).slots.at 0).value/\((aa L k).slots.at 1).value=((aa L k).slots.at 1).value/\aa L k=aa L k/\(aa L k).slots.at 0=(aa L k).slots.at 0/\(aa L k).slots.at 1=
  (aa L k).slots.at 1/\aa L k=aa L k/\k.oid=k.oid/\((aa L k).slots.at 0).value=((aa L k).slots.at 0).value/\((aa L k).slots.at 1).value=((aa L k).slots.at 1).value
  /\aa L k=aa L k/\k.oid=k.oid/\((aa L k).slots.at 0).value=((aa L k).slots.at 0).value/\((aa L k).slots.at 1).value=((aa L k).slots.at 1).value/\void=void/\false=
  false/\aa L k=aa L k/\k.oid=k.oid/\((aa L k).slots.at 0).value=((aa L k).slots.at 0).value/\((aa L k).slots.at 1).value=((aa L k).slots.at 1).value/\r0=r0)/\
  ((!decide ((dS L k g).kind=0))=false->(decide ((dS L k g).count=4294967295)=true->true=true/\r0=r0/\aM IntKind.i64 (g+1)/\∃g',hS L k g'/\(aH L k+1-g').toNat<
  (aH L k+1-g).toNat/\g+1=g'/\L=L/\k=k/\n=n/\void=void/\k=k/\aa L k=aa L k/\k.oid=k.oid/\((aa L k).slots.at 0).value=((aa L k).slots.at 0).value/\
  ((aa L k).slots.at 1).value=((aa L k).slots.at 1).value/\aa L k=aa L k/\(aa L k).slots.at 0=(aa L k).slots.at 0/\(aa L k).slots.at 1=(aa L k).slots.at 1/\
  aa L k=aa L k/\k.oid=k.oid/\((aa L k).slots.at 0).value=((aa L k).slots.at 0).value/\((aa L k).slots.at 1).value=((aa L k).slots.at 1).value/\bO (bJ L (aD
  L k) g) g (Obj.mk 3 (dS L k g).count free.calls free.slots free.bytes)=bJ L (aD L k) g'/\k=k/\aa L k=aa L k/\k.oid=k.oid/\((aa L k).slots.at 0).value=((aa L
  k).slots.at 0).value/\((aa L k).slots.at 1).value=((aa L k).slots.at 1).value/\aa L k=aa L k/\(aa L k).slots.at 0=(aa L k).slots.at 0/\(aa L k).slots.at 1=
  (aa L k).slots.at 1/\aa L k=aa L k/\k.oid=k.oid/\((aa L k).slots.at 0).value=((aa L k).slots.at 0).value/\((aa L k).slots.at 1).value=((aa L k).slots.at 1).value
  /\aa L k=aa L k/\k.oid=k.oid/\((aa L k).slots.at 0).value=((aa L k).slots.at 0).value/\((aa L k).slots.at 1).value=((aa L k).slots.at 1).value/\void=void/\false=
  false/\aa L k=aa L k/\k.oid=k.oid/\((aa L k).slots.at 0).value=((aa L k).slots.at 0).value/\((aa L k).slots.at 1).value=((aa L k).slots.at 1).value/\r0=r0)/\
  (decide ((dS L k g).count=4294967295)=false->aM IntKind.i64 ((dS L k g).count+1)/\true=true/\aM IntKind.i64 ((dS L k g).count+1)/\r0=r0/\aM IntKind.i64 (((aa L
  k).slots.at 1).value-n)/\true=true/\((!decide (g<=((aa L k).slots.at 1).value-n))=true->(void=b9 L k n/\221=bY L k n)/\L=bk L k n)/\((!decide (g<=((aa L
  k).slots.at 1).value-n))=false->true=true/\true=true/\∀(r0:Loop),(∃g_1,oE L k n g_1/\((aa L k).slots.at 0).value=g_1/\L=L/\k=k/\n=n/\void=void/\k=k/\aa
  L k=aa L k/\k.oid=k.oid/\((aa L k).slots.at 0).value=((aa L k).slots.at 0).value/\((aa L k).slots.at 1).value=((aa L k).slots.at 1).value/\aa L k=aa L k/\
  (aa L k).slots.at 0=(aa L k).slots.at 0/\(aa L k).slots.at 1=(aa L k).slots.at 1/\aa L k=aa L k/\k.oid=k.oid/\((aa L k).slots.at 0).value=((aa L
  k).slots.at 0).value/\((aa L k).slots.at 1).value=((aa L k).slots.at 1).value/\oN L k g=oN L k g/\k=k/\aa L k=aa L k/\k.oid=k.oid/\((aa L k).slots.at 0).value=
  ((aa L k).slots.at 0).value/\((aa L k).slots.at 1).value=((aa L k).slots.at 1).value/\aa L k=aa L k/\(aa L k).slots.at 0=(aa L k).slots.at 0/\(aa L k).slots.at
  1=(aa L k).slots.at 1/\aa L k=aa L k/\k.oid=k.oid/\((aa L k).slots.at 0).value=((aa L k).slots.at 0).value/\((aa L k).slots.at 1).value=((aa L k).slots.at
  1).value/\aa L k=aa L k/\k.oid=k.oid/\((aa L k).slots.at 0).value=((aa L k).slots.at 0).value/\((aa L k).slots.at 1).value=((aa L k).slots.at 1).value/\bX 1 g
  ((dS L k g).count+1)=bX 1 g ((dS L k g).count+1)/\true=true/\aa L k=aa L k/\k.oid=k.oid/\((aa L k).slots.at 0).value=((aa L k).slots.at 0).value/\((aa L
  k).slots.at 1).value=((aa L k).slots.at 1).value/\dS L k g=dS L k g/\dS L k g=dS L k g/\bX 1 g ((dS L k g).count+1)=bX 1 g ((dS L k g).count+1)/\aa L k=
  aa L k/\k.oid=k.oid/\((aa L k).slots.at 0).value=((aa L k).slots.at 0).value/\((aa L k).slots.at 1).value=((aa L k).slots.at 1).value/\r0=r0)/\∀(g_1:Int),oE L
  k n g_1->(decide (g_1<=((aa L k).slots.at 1).value)=true->r0=r0/\r0=r0/\aM IntKind.i64 (((aa L k).slots.at 1).value-n)/\true=true/\((!(decide (g_1<=((aa L k).slots.at
  1).value-n)||decide ((aC (oN L k g) g_1).kind=0)||decide ((aC (oN L k g) g_1).kind=3)))=true->r0=r0/\(void=b9 L k n/\221=bY L k n)/\L=bk L k n)/\((!(decide
  (g_1<=((aa L k).slots.at 1).value-n)||decide ((aC (oN L k g) g_1).kind=0)||decide ((aC (oN L k g) g_1).kind=3)))=false->r0=r0/\aM IntKind.i64 (g_1+1)/\∃g',oE
  L k n g'/\(aH L k+1-g').toNat<(aH L k+1-g_1).toNat/\g_1+1=g'/\L=L/\k=k/\n=n/\void=void/\k=k/\aa L k=aa L k/\k.oid=k.oid/\((aa L k).slots.at
  0).value=((aa L k).slots.at 0).value/\((aa L k).slots.at 1).value=((aa L k).slots.at 1).value/\aa L k=aa L k/\(aa L k).slots.at 0=(aa L k).slots.at 0/\(aa L
  k).slots.at 1=(aa L k).slots.at 1/\aa L k=aa L k/\k.oid=k.oid/\((aa L k).slots.at 0).value=((aa L k).slots.at 0).value/\((aa L k).slots.at 1).value=((aa L
  k).slots.at 1).value/\oN L k g=oN L k g/\k=k/\aa L k=aa L k/\k.oid=k.oid/\((aa L k).slots.at 0).value=((aa L k).slots.at 0).value/\((aa L k).slots.at 1).value=
  ((aa L k).slots.at 1).value/\aa L k=aa L k/\(aa L k).slots.at 0=(aa L k).slots.at 0/\(aa L k).slots.at 1=(aa L k).slots.at 1/\aa L k=aa L k/\k.oid=
  k.oid/\((aa L k).slots.at 0).value=((aa L k).slots.at 0).value/\((aa L k).slots.at 1).value=((aa L k).slots.at 1).value/\aa L k=aa L k/\k.oid=k.oid/\((aa L
  k).slots.at 0).value=((aa L k).slots.at 0).value/\((aa L k).slots.at 1).value=((aa L k).slots.at 1).value/\bX 1 g ((dS L k g).count+1)=bX 1 g ((dS L k g).count+1)/\
  true=true/\aa L k=aa L k/\k.oid=k.oid/\((aa L k).slots.at 0).value=((aa L k).slots.at 0).value/\((aa L k).slots.at 1).value=((aa L k).slots.at 1).value/\dS L k
  g=dS L k g/\dS L k g=dS L k g/\bX 1 g ((dS L k g).count+1)=bX 1 g ((dS L k g).count+1)/\aa L k=aa L k/\k.oid=k.oid/\((aa L k).slots.at 0).value=
  ((aa L k).slots.at 0).value/\((aa L k).slots.at 1).value=((aa L k).slots.at 1).value/\r0=r0))/\(decide (g_1<=((aa L k).slots.at 1).value)=false->true=true/\true=true/\
  aM IntKind.i64 (((aa L k).slots.at 1).value-n)/\aM IntKind.i64 (((aa L k).slots.at 1).value-n+1)/\true=true/\true=true/\true=true/\true=true/\true=true/\aM
  IntKind.i64 (((aa L k).slots.at 1).value-n)/\true=true/\true=true/\true=true/\(aq L).le 1000/\(iL L (kS L k n g)=true->(∃g_2,p7 L (bk L k n) g_2/\Value.slice
  none 0 0=Value.slice none 0 0/\0=g_2/\L=kZ L (bk L k n) g_2/\k=k/\n=n/\void=void/\k=k/\aa L k=aa L k/\k.oid=k.oid/\((aa L k).slots.at 0).value=((aa L
  k).slots.at 0).value/\((aa L k).slots.at 1).value=((aa L k).slots.at 1).value/\aa L k=aa L k/\(aa L k).slots.at 0=(aa L k).slots.at 0/\(aa L k).slots.at 1=
  (aa L k).slots.at 1/\aa L k=aa L k/\k.oid=k.oid/\((aa L k).slots.at 0).value=((aa L k).slots.at 0).value/\((aa L k).slots.at 1).value=((aa L k).slots.at 1).value
  /\kS L k n g=kS L k n g/\k=k/\aa L k=aa L k/\k.oid=k.oid/\((aa L k).slots.at 0).value=((aa L k).slots.at 0).value/\((aa L k).slots.at 1).value=((aa L
  k).slots.at 1).value/\aa L k=aa L k/\(aa L k).slots.at 0=(aa L k).slots.at 0/\(aa L k).slots.at 1=(aa L k).slots.at 1/\aa L k=aa L k/\k.oid=k.oid/\
  ((aa L k).slots.at 0).value=((aa L k).slots.at 0).value/\((aa L k).slots.at 1).value=((aa L k).slots.at 1).value/\aa L k=aa L k/\k.oid=k.oid/\((aa L k).slots.at
  0).value=((aa L k).slots.at 0).value/\((aa L k).slots.at 1).value=((aa L k).slots.at 1).value/\bX 1 g ((dS L k g).count+1)=bX 1 g ((dS L k g).count+1)/\true=true
  /\aa L k=aa L k/\k.oid=k.oid/\((aa L k).slots.at 0).value=((aa L k).slots.at 0).value/\((aa L k).slots.at 1).value=((aa L k).slots.at 1).value/\dS L k g=dS L k
  g/\dS L k g=dS L k g/\bX 1 g ((dS L k g).count+1)=bX 1 g ((dS L k g).count+1)/\aa L k=aa L k/\k.oid=k.oid/\((aa L k).slots.at 0).value=((aa L
  k).slots.at 0).value/\((aa L k).slots.at 1).value=((aa L k).slots.at 1).value/\zG L k n g=zG L k n g/\m6 (((aa L k).slots.at 1).value-n+1)=m6 (((aa L k).slots.at
  1).value-n+1)/\m6 ((aa L k).slots.at 1).value=m6 ((aa L k).slots.at 1).value/\zw L k n g=zw L k n g/\m6 (((aa L k).slots.at 1).value-n)=m6 (((aa L k).slots.at
  1).value-n))/\∀(g_2:Int),p7 L (bk L k n) g_2->(decide (g_2<0)=true->False)/\(decide (g_2<0)=false->(Key.mk 4 g ((dS L k g).count+1) (bX 1 g ((dS L k g).count+
  1)).call (bX 1 g ((dS L k g).count+1)).rights (bX 1 g ((dS L k g).count+1)).value=b9 L k n/\0=bY L k n)/\kZ L (bk L k n) g_2=bk L k n))/\(iL L (kS L k n
  g)=false->(∃g_2,p7 L (bk L k n) g_2/\b6 (aq (cq L (kS L k n g)))=b6 (aq (cq L (kS L k n g)))/\0=g_2/\L=kZ L (bk L k n) g_2/\k=k/\n=n/\void=void/\k
  =k/\aa L k=aa L k/\k.oid=k.oid/\((aa L k).slots.at 0).value=((aa L k).slots.at 0).value/\((aa L k).slots.at 1).value=((aa L k).slots.at 1).value/\aa L k=
  aa L k/\(aa L k).slots.at 0=(aa L k).slots.at 0/\(aa L k).slots.at 1=(aa L k).slots.at 1/\aa L k=aa L k/\k.oid=k.oid/\((aa L k).slots.at 0).value=((aa
  L k).slots.at 0).value/\((aa L k).slots.at 1).value=((aa L k).slots.at 1).value/\kS L k n g=kS L k n g/\k=k/\aa L k=aa L k/\k.oid=k.oid/\((aa L k).slots.at
  0).value=((aa L k).slots.at 0).value/\((aa L k).slots.at 1).value=((aa L k).slots.at 1).value/\aa L k=aa L k/\(aa L k).slots.at 0=(aa L k).slots.at 0/\(aa L
  k).slots.at 1=(aa L k).slots.at 1/\aa L k=aa L k/\k.oid=k.oid/\((aa L k).slots.at 0).value=((aa L k).slots.at 0).value/\((aa L k).slots.at 1).value=((aa L
  k).slots.at 1).value/\aa L k=aa L k/\k.oid=k.oid/\((aa L k).slots.at 0).value=((aa L k).slots.at 0).value/\((aa L k).slots.at 1).value=((aa L k).slots.at 1).value/\
  bX 1 g ((dS L k g).count+1)=bX 1 g ((dS L k g).count+1)/\true=true/\aa L k=aa L k/\k.oid=k.oid/\((aa L k).slots.at 0).value=((aa L k).slots.at 0).value/\
  ((aa L k).slots.at 1).value=((aa L k).slots.at 1).value/\dS L k g=dS L k g/\dS L k g=dS L k g/\bX 1 g ((dS L k g).count+1)=bX 1 g ((dS L k g).count+1)/\
  aa L k=aa L k/\k.oid=k.oid/\((aa L k).slots.at 0).value=((aa L k).slots.at 0).value/\((aa L k).slots.at 1).value=((aa L k).slots.at 1).value/\zG L k n g=zG L k
  n g/\m6 (((aa L k).slots.at 1).value-n+1)=m6 (((aa L k).slots.at 1).value-n+1)/\m6 ((aa L k).slots.at 1).value=m6 ((aa L k).slots.at 1).value/\zw L k n g=zw
  L k n g/\m6 (((aa L k).slots.at 1).value-n)=m6 (((aa L k).slots.at 1).value-n)/\cq L (kS L k n g)=cq L (kS L k n g))/\∀(g_2:Int),p7 L (bk L k n) g_2->
  (decide (g_2<b6 (aq (cq L (kS L k n g))))=true->(0<=g_2/\g_2< ↑(aq (cq L (kS L k n g))))/\g_2.toNat<aq (cq L (kS L k n g))/\true=true/\aM IntKind.i64 (g_2+1)/\
  ∃g',p7 L (bk L k n) g'/\(b6 (aq (cq L (bk L k n)))-g').toNat<(b6 (aq (cq L (bk L k n)))-g_2).toNat/\b6 (aq (cq L (kS L k n g)))=b6 (aq (cq L (kS L
  k n g)))/\g_2+1=g'/\bO (kZ L (bk L k n) g_2) (ak (cq L (kS L k n g)) g_2.toNat 0) (aC (kS L k n g) (ak (cq L (kS L k n g)) g_2.toNat 0))=kZ L (bk L k n) g'/\
  k=k/\n=n/\void=void/\k=k/\aa L k=aa L k/\k.oid=k.oid/\((aa L k).slots.at 0).value=((aa L k).slots.at 0).value/\((aa L k).slots.at 1).value=((aa L
  k).slots.at 1).value/\aa L k=aa L k/\(aa L k).slots.at 0=(aa L k).slots.at 0/\(aa L k).slots.at 1=(aa L k).slots.at 1/\aa L k=aa L k/\k.oid=k.oid/\
  ((aa L k).slots.at 0).value=((aa L k).slots.at 0).value/\((aa L k).slots.at 1).value=((aa L k).slots.at 1).value/\kS L k n g=kS L k n g/\k=k/\aa L k=aa L k/\
  k.oid=k.oid/\((aa L k).slots.at 0).value=((aa L k).slots.at 0).value/\((aa L k).slots.at 1).value=((aa L k).slots.at 1).value/\aa L k=aa L k/\(aa L k).slots.at 0
  =(aa L k).slots.at 0/\(aa L k).slots.at 1=(aa L k).slots.at 1/\aa L k=aa L k/\k.oid=k.oid/\((aa L k).slots.at 0).value=((aa L k).slots.at 0).value/\((aa L
  k).slots.at 1).value=((aa L k).slots.at 1).value/\aa L k=aa L k/\k.oid=k.oid/\((aa L k).slots.at 0).value=((aa L k).slots.at 0).value/\((aa L k).slots.at 1).value=
  ((aa L k).slots.at 1).value/\bX 1 g ((dS L k g).count+1)=bX 1 g ((dS L k g).count+1)/\true=true/\aa L k=aa L k/\k.oid=k.oid/\((aa L k).slots.at 0).value=
  ((aa L k).slots.at 0).value/\((aa L k).slots.at 1).value=((aa L k).slots.at 1).value/\dS L k g=dS L k g/\dS L k g=dS L k g/\bX 1 g ((dS L k g).count+1)=bX 1
  g ((dS L k g).count+1)/\aa L k=aa L k/\k.oid=k.oid/\((aa L k).slots.at 0).value=((aa L k).slots.at 0).value/\((aa L k).slots.at 1).value=((aa L k).slots.at
  1).value/\zG L k n g=zG L k n g/\m6 (((aa L k).slots.at 1).value-n+1)=m6 (((aa L k).slots.at 1).value-n+1)/\m6 ((aa L k).slots.at 1).value=m6 ((aa L
  k).slots.at 1).value/\zw L k n g=zw L k n g/\m6 (((aa L k).slots.at 1).value-n)=m6 (((aa L k).slots.at 1).value-n)/\cq L (kS L k n g)=cq L (kS L k n g))/\(decide
  (g_2<b6 (aq (cq L (kS L k n g))))=false->(Key.mk 4 g ((dS L k g).count+1) (bX 1 g ((dS L k g).count+1)).call (bX 1 g ((dS L k g).count+1)).rights (bX 1 g ((dS L k
  g).count+1)).value=b9 L k n/\0=bY L k n)/\kZ L (bk L k n) g_2=bk L k n)))))))/\(decide (g<=((aa L k).slots.at 1).value)=false->true=true/\(void=b9 L k n/\221
  =bY L k n)/\L=bk L k n))))))))):=by
 refine⟨rfl,rfl,fun h=>nP (sb (DM h) (by omega)) (by omega),fun h=>⟨rfl,fun h2=>nP (sb (Tm h h2) (by omega)) (by omega),fun h2=>⟨rfl,fun h3=>nP (sb (Sr h h2 h3) (by omega)) (by omega),fun h3=>?_⟩⟩⟩
 obtain⟨e,e1,e2⟩:=LX h h2 h3;obtain⟨_,a0,a1,a2,a3,a4⟩:=nK e;have hkd:=xK (lX h2).1 (lX h2).2;have hlen:=jm hL;have hll:aq L=L.length:=rfl;have h3':=h3;rw[e1,e2]at h3';rw[e1,e2];have hr:∀x:Int,-1000<=x->x<=1000->aM IntKind.i64 x:=fun x h1 h2=>by simp only[aM,cj];omega
 refine⟨fun _=>hr _ (by omega) (by omega),rfl,fun h4=>nP (Gj e (by simp only[Bool.not_eq_true',Bool.and_eq_false_iff,decide_eq_false_iff_not]at h4;omega)) (by omega),fun h4=>⟨rfl,(show L.length<=1000 by omega),fun hn=>?_,fun _=>⟨rfl,rfl,fun h'=>?_,fun _=>⟨rfl,fun h'=>?_,fun _=>⟨rfl,fun h'=>?_,fun _=>⟨rfl,rfl,rfl,fun r0=>?_⟩⟩⟩⟩⟩⟩
 ·exfalso
  have:=VK hn;omega
 ·rw[h]at h';exact absurd h' (by decide)
 ·rw[h2]at h';exact absurd h' (by decide)
 ·rw[h3']at h';exact absurd h' (by decide)
 simp only[Bool.not_eq_false',VG,VH]at h4;obtain⟨hn1,hn2⟩:=h4;have h0:=NN e hn1 hn2;have hcnt:∀j:Nat,j<L.length->0<=(ak L j free).count/\(ak L j free).count<=4294967295:=fun j hj=>⟨(jN (cH hL j hj)).1,(jN (cH hL j hj)).2.1⟩
 have hci:∀j:Nat,j<L.length->aM IntKind.i64 ((ak L j free).count+1):=fun j hj=>by have:=hcnt j hj;simp only[aM,cj];omega
 refine⟨⟨aD L k,⟨by omega,by omega,vM⟩,rfl,?_⟩,fun g hg=>⟨fun hgl=>?_,fun hgl=>?_⟩⟩
 ·have hx:L=bJ L (aD L k) (aD L k):=AR;(repeat' apply And.intro)<;>first|with_reducible rfl|exact hx
 ·obtain⟨g0,g1,g2⟩:=hg;have hgl:=VK hgl;have hgn:g.toNat<L.length:=by omega
  have hgz:(bJ L (aD L k) g).length=L.length:=lu;have hO:dS L k g=ak L g.toNat free:=by unfold dS;rw[fO (by omega) (by omega),CF (by omega)]
  refine⟨rfl,rfl,fun hk0=>?_,fun hk0=>⟨fun hc=>?_,fun hc=>?_⟩⟩
  ·obtain⟨f1,f2⟩:=Ep (o:=ak L g.toNat free) (by rw[<-hO];simpa using hk0)
   have hx:bJ L (aD L k) g=bJ L (aD L k) (g+1):=(Br (by omega) f1).symm
   refine⟨rfl,hr _ (by omega) (by omega),g+1,⟨by omega,by omega,oD g2 f2⟩,by omega,rfl,?_⟩
   (repeat' apply And.intro)<;>first|with_reducible rfl|exact hx
  ·rw[hO]at hk0 hc;obtain⟨f1,f2⟩:=Ks (o:=ak L g.toNat free) (by simpa using hk0) (by have:=VK hc;omega)
   have hp:=(kr (L:=bJ L (aD L k) g) (i:=g) (by omega) (by omega) (hgz▸zW (cH hL g.toNat hgn))).1
   have hx:bO (bJ L (aD L k) g) g (Obj.mk 3 (dS L k g).count free.calls free.slots free.bytes)=bJ L (aD L k) (g+1):=by rw[hO];exact hp.trans (Ew (by omega) (by omega) g0 f1)
   refine⟨rfl,rfl,hr _ (by omega) (by omega),g+1,⟨by omega,by omega,oD g2 f2⟩,by omega,rfl,?_⟩
   (repeat' apply And.intro)<;>first|with_reducible rfl|exact hx
  ·rw[hO]at hk0 hc;have hc:=VJ hc;have:=hcnt _ hgn;obtain⟨f1,f2⟩:=Kq (o:=ak L g.toNat free) (by simpa using hk0) (by omega)
   obtain⟨i1,i2,i3,i4,i5,i6,i7,i8⟩:=O6 hL e hkd g0 hgl g2 f2;have hcg:aM IntKind.i64 ((dS L k g).count+1):=by rw[hO];exact hci _ hgn
   refine⟨hcg,rfl,hcg,rfl,hr _ (by omega) (by omega),rfl,fun hc2=>nP (A1 h0 (.inr (by rw[i1];simp only[Bool.not_eq_true',decide_eq_false_iff_not]at hc2;omega))) (by omega),fun hc2=>⟨rfl,rfl,fun r1=>⟨⟨aD L k,⟨by omega,by omega,EJ (by omega)⟩,rfl,?_⟩,fun j hj=>⟨fun hjl=>?_,fun hjl=>?_⟩⟩⟩⟩
   ·(repeat' apply And.intro)<;>first|with_reducible rfl|exact hx
   ·obtain⟨j0,j1,j2⟩:=hj;have hjl:=VK hjl;have hgj:aC (oN L k g) j=ak (dE L k) j.toNat free:=by rw[i3];exact fO (by omega) (by omega)
    rw[hgj];have hkk:=jN (cH i5 j.toNat (by omega))
    refine⟨rfl,rfl,hr _ (by omega) (by omega),rfl,fun hb=>⟨rfl,?_⟩,fun hb=>⟨rfl,hr _ (by omega) (by omega),j+1,⟨by omega,by omega,?_⟩,by omega,rfl,?_⟩⟩
    ·simp only[Bool.not_eq_true',Bool.or_eq_false_iff,decide_eq_false_iff_not]at hb;have hbz:lH (ak (dE L k) j.toNat free)=true:=by unfold lH;simp only[Bool.or_eq_true,VH];omega
     exact nP (IL h0 (KO (by omega) (by omega) (by omega) (by omega) hbz)) (by omega)
    ·simp only[Bool.not_eq_false',Bool.or_eq_true,VH]at hb;by_cases hjn:j<=aH L k-n
     ·exact EJ (by omega)
     ·have hbz:lH (ak (dE L k) j.toNat free)=false:=by unfold lH;simp only[Bool.or_eq_false_iff,decide_eq_false_iff_not];omega
      rw[Ov (by omega) hbz];exact j2
    ·(repeat' apply And.intro)<;>first|with_reducible rfl|exact hx
   ·obtain⟨j0,j1,j2⟩:=hj;have hjl:=VJ hjl;have:j=aH L k+1:=by omega
    subst this;simp only[Bool.not_eq_false',VH]at hc2;have hE:=Nu h0 (by rw[i1];omega) (by rw[i1];omega) j2
    obtain⟨l1,l2,l3,l4⟩:=Ob hL e hkd e2 g0 hgl g2 f2 hE;rw[l1];have hul:(cq L (bk L k n)).length<=L.length:=LV;have hu:b6 (aq (cq L (bk L k n)))=((cq L (bk L k n)).length:Int):=rfl
    refine⟨rfl,rfl,hr _ (by omega) (by omega),hr _ (by omega) (by omega),rfl,rfl,rfl,rfl,rfl,hr _ (by omega) (by omega),rfl,rfl,rfl,(show L.length<=1000 by omega),fun hno=>?_,fun _=>⟨⟨0,⟨by omega,by omega⟩,rfl,rfl,?_⟩,fun t ht=>⟨fun htl=>?_,fun htl=>⟨⟨l4,hE.symm⟩,Mu l3 l2 ?_⟩⟩⟩⟩
    ·rw[Kh l3 (by omega)]at hno;exact absurd hno (by decide)
    ·have hx:L=kZ L (bk L k n) 0:=rfl;(repeat' apply And.intro)<;>first|with_reducible rfl|exact hx
    ·obtain⟨t0,t1⟩:=ht;have htl:=VK htl;rw[hu]at htl;have hx:bO (kZ L (bk L k n) t) (ak (cq L (bk L k n)) t.toNat 0) (aC (bk L k n) (ak (cq L (bk L k n)) t.toNat 0))=kZ L (bk L k n) (t+1):=Ki t0;refine⟨⟨t0,htl⟩,(show t.toNat<(cq L (bk L k n)).length by omega),rfl,hr _ (by omega) (by omega),t+1,⟨by omega,by omega⟩,by rw[hu];omega,rfl,rfl,?_⟩
     (repeat' apply And.intro)<;>first|with_reducible rfl|exact hx
    ·have htl:=VJ htl;rw[hu]at htl;obtain⟨t0,t1⟩:=ht;omega
 ·obtain⟨g0,g1,g2⟩:=hg;have hgl:=VJ hgl;have:g=aH L k+1:=by omega
  subst this;obtain⟨m1,m2,m3⟩:=JR 1 g2;exact⟨rfl,nP (A1 h0 (.inl (by unfold fm;rw[m1];omega))) (by omega)⟩
theorem E7 (L:List Sx.Obj) (k:Key) (n:Int) (hL:ar L):aj Tryz.prog 169 [.lp 0 0,.key k,.it .i64 n] [.store tS eS L] (zt (.tp [.key (b9 L k n),.it .i64 (bY L k n)]) (bk L k n)) (fun _ _=>False):=
 aL (inl:=(fun f=>f==214||f==213||f==218||f==219||f==220||f==221||f==222||f==223||f==1000000+232)) (ann:=(kV [(3000+232,1,UB [0,1] (fun g=> [(3,.it .i64 g)]) 11 (fun g=> .store tS eS (bJ L (aD L k) g)) (hS L k) (AM (aH L k) 1)),(9000+232,1,T5 [0,1] (fun g=> [(3,.it .i64 g)]) (oE L k n) (AM (aH L k) 1)),(169,16,UB [0,6,7,9,10,90,91] (fun g=> [(92,.it .i64 g)]) 0 (fun g=> .store tS eS (kZ L (bk L k n) g)) (p7 L (bk L k n)) (b6 (aq (cq L (bk L k n)))))])) (ab ba (ab bn (ab eN (ab p8 au)))) (aE cw (aE zn (aE Dk aA))) (cZ fS) (FP L k n hL) (by kernel_rfl)
theorem FI:oP Tryz.prog 169 HS:=
 mf (m:=fun x=>Tk.cn x 0) (oi H4 (fun _=>rfl)) (fun _=>rfl) (fun _ _=>rfl) (fun x=>aL (inl:=(fun f=>f==214||f==213||f==218||f==219||f==220||f==221||f==222||f==223||f==1000000+232)) (ann:=aR) (ab ba (ab bn (ab eN (ab p8 au)))) (aE cw (aE zn (aE Dk aA))) (cZ fS) (CH x.1 x.2.1) (by kernel_rfl)) (fun x=>aL (inl:=(fun f=>f==214||f==213||f==218||f==219||f==220||f==221||f==222||f==223||f==1000000+232)) (ann:=aR) (ab ba (ab bn (ab eN (ab p8 au)))) (aE cw (aE zn (aE Dk aA))) (cZ fS) (C3 x.1 x.2.1) (by kernel_rfl)) fun L x hL _ _=>E7 L x.1 x.2.1 hL
end Go.Proofs.YtlblcfaclmpekaaGreat
