import Derived.Test.YtghpaegglbbocaaGreatCB
import Derived.Test.YtghpaegglbbocaaGreatCQ
set_option linter.unusedSimpArgs false
set_option linter.unusedVariables false
namespace Go.Proofs.YtghpaegglbbocaaGreat
open Go.Sx
set_option maxRecDepth 100000
theorem D4 (k:Key) (n:Int):
 true=true/\true=true/\((!decide (0<an []))=true->void=bO [] k n/\1=bM [] k n)/\((!decide (0<an []))=false->true=true/\((!(aU [] k&&decide (k.kind=4)))=
  true->void=bO [] k n/\190=bM [] k n)/\((!(aU [] k&&decide (k.kind=4)))=false->true=true/\((!(decide (((aa [] k).slots.at 0).kind=1)&&decide (((aa [] k).slots.at
  1).kind=1)&&decide (0<=((aa [] k).slots.at 0).value)&&decide (((aa [] k).slots.at 0).value<=((aa [] k).slots.at 1).value)&&decide (((aa [] k).slots.at 1).value<an [])))
  =true->void=bO [] k n/\220=bM [] k n)/\((!(decide (((aa [] k).slots.at 0).kind=1)&&decide (((aa [] k).slots.at 1).kind=1)&&decide (0<=((aa [] k).slots.at 0).value)&&
  decide (((aa [] k).slots.at 0).value<=((aa [] k).slots.at 1).value)&&decide (((aa [] k).slots.at 1).value<an [])))=false->(decide (1<=n)=true->aG IntKind.i64 (((aa []
  k).slots.at 1).value-((aa [] k).slots.at 0).value))/\true=true/\((!(decide (1<=n)&&decide (n<=((aa [] k).slots.at 1).value-((aa [] k).slots.at 0).value)))=true->void=bO
  [] k n/\4=bM [] k n)/\((!(decide (1<=n)&&decide (n<=((aa [] k).slots.at 1).value-((aa [] k).slots.at 0).value)))=false->true=true/\true=true/\true=true/\((!decide (0<
  an []))=true->void=bO [] k n/\1=bM [] k n)/\((!decide (0<an []))=false->true=true/\((!(aU [] k&&decide (k.kind=4)))=true->void=bO [] k n/\190=bM [] k
  n)/\((!(aU [] k&&decide (k.kind=4)))=false->true=true/\((!(decide (((aa [] k).slots.at 0).kind=1)&&decide (((aa [] k).slots.at 1).kind=1)&&decide (0<=((aa []
  k).slots.at 0).value)&&decide (((aa [] k).slots.at 0).value<=((aa [] k).slots.at 1).value)&&decide (((aa [] k).slots.at 1).value<an [])))=true->void=bO [] k n/\220=
  bM [] k n)/\((!(decide (((aa [] k).slots.at 0).kind=1)&&decide (((aa [] k).slots.at 1).kind=1)&&decide (0<=((aa [] k).slots.at 0).value)&&decide (((aa [] k).slots.at
  0).value<=((aa [] k).slots.at 1).value)&&decide (((aa [] k).slots.at 1).value<an [])))=false->true=true/\true=true/\true=true/\∀(r0:Loop),False))))))):=by
 exact⟨rfl,rfl,fun h=>(oW (tx (F9 h) (by omega)) (by omega)).1,fun h=>absurd h (by decide)⟩
theorem Ez (k:Key) (n:Int):
 true=true/\true=true/\((!decide (0<an []))=true->void=bO [] k n/\1=bM [] k n)/\((!decide (0<an []))=false->true=true/\((!(aU [] k&&decide (k.kind=4)))=
  true->void=bO [] k n/\190=bM [] k n)/\((!(aU [] k&&decide (k.kind=4)))=false->true=true/\((!(decide (((aa [] k).slots.at 0).kind=1)&&decide (((aa [] k).slots.at
  1).kind=1)&&decide (0<=((aa [] k).slots.at 0).value)&&decide (((aa [] k).slots.at 0).value<=((aa [] k).slots.at 1).value)&&decide (((aa [] k).slots.at 1).value<an [])))
  =true->void=bO [] k n/\220=bM [] k n)/\((!(decide (((aa [] k).slots.at 0).kind=1)&&decide (((aa [] k).slots.at 1).kind=1)&&decide (0<=((aa [] k).slots.at 0).value)&&
  decide (((aa [] k).slots.at 0).value<=((aa [] k).slots.at 1).value)&&decide (((aa [] k).slots.at 1).value<an [])))=false->(decide (1<=n)=true->aG IntKind.i64 (((aa []
  k).slots.at 1).value-((aa [] k).slots.at 0).value))/\true=true/\((!(decide (1<=n)&&decide (n<=((aa [] k).slots.at 1).value-((aa [] k).slots.at 0).value)))=true->void=bO
  [] k n/\4=bM [] k n)/\((!(decide (1<=n)&&decide (n<=((aa [] k).slots.at 1).value-((aa [] k).slots.at 0).value)))=false->true=true/\False)))):=by
 exact⟨rfl,rfl,fun h=>(oW (tx (F9 h) (by omega)) (by omega)).1,fun h=>absurd h (by decide)⟩
theorem HP (L:List Sx.Obj) (k:Key) (n:Int) (hL:aq L):
 true=true/\true=true/\((!decide (0<an L))=true->(void=bO L k n/\1=bM L k n)/\L=bu L k n)/\((!decide (0<an L))=false->true=true/\((!(aU L k&&decide
  (k.kind=4)))=true->(void=bO L k n/\190=bM L k n)/\L=bu L k n)/\((!(aU L k&&decide (k.kind=4)))=false->true=true/\((!(decide (((aa L k).slots.at 0).kind=1)&&
  decide (((aa L k).slots.at 1).kind=1)&&decide (0<=((aa L k).slots.at 0).value)&&decide (((aa L k).slots.at 0).value<=((aa L k).slots.at 1).value)&&decide (((aa L
  k).slots.at 1).value<an L)))=true->(void=bO L k n/\220=bM L k n)/\L=bu L k n)/\((!(decide (((aa L k).slots.at 0).kind=1)&&decide (((aa L k).slots.at 1).kind=1)
  &&decide (0<=((aa L k).slots.at 0).value)&&decide (((aa L k).slots.at 0).value<=((aa L k).slots.at 1).value)&&decide (((aa L k).slots.at 1).value<an L)))=false->(decide
  (1<=n)=true->aG IntKind.i64 (((aa L k).slots.at 1).value-((aa L k).slots.at 0).value))/\true=true/\((!(decide (1<=n)&&decide (n<=((aa L k).slots.at 1).value-((aa L
  k).slots.at 0).value)))=true->(void=bO L k n/\4=bM L k n)/\L=bu L k n)/\((!(decide (1<=n)&&decide (n<=((aa L k).slots.at 1).value-((aa L k).slots.at 0).value)))=
  false->true=true/\(aj L).le 1000/\(bC L=true->true=true/\true=true/\((!decide (0<an []))=true->(void=bO L k n/\1=bM L k n)/\L=bu L k n)/\((!decide (0<
  an []))=false->true=true/\((!(aU [] k&&decide (k.kind=4)))=true->(void=bO L k n/\190=bM L k n)/\L=bu L k n)/\((!(aU [] k&&decide (k.kind=4)))=false->true=
  true/\((!(decide (((aa [] k).slots.at 0).kind=1)&&decide (((aa [] k).slots.at 1).kind=1)&&decide (0<=((aa [] k).slots.at 0).value)&&decide (((aa [] k).slots.at 0).value<=
  ((aa [] k).slots.at 1).value)&&decide (((aa [] k).slots.at 1).value<an [])))=true->(void=bO L k n/\220=bM L k n)/\L=bu L k n)/\((!(decide (((aa [] k).slots.at
  0).kind=1)&&decide (((aa [] k).slots.at 1).kind=1)&&decide (0<=((aa [] k).slots.at 0).value)&&decide (((aa [] k).slots.at 0).value<=((aa [] k).slots.at 1).value)&&decide
  (((aa [] k).slots.at 1).value<an [])))=false->true=true/\true=true/\true=true/\∀(r0:Loop),(∃g,iG L k g/\False)/\∀(g:Int),iG L k g->(decide (g<=((aa []
  k).slots.at 1).value)=true->r0=r0/\r0=r0/\((!decide ((aR [] g).kind=0))=true->r0=r0/\aG IntKind.i64 (g+1)/\∃g',iG L k g'/\(aE L k+1-g').toNat<(aE L k+1
  -g).toNat/\g+1=g'/\L=L/\k=k/\n=n/\void=void/\k=k/\aa L k=aa L k/\k.oid=k.oid/\((aa L k).slots.at 0).value=((aa L k).slots.at 0).value/\((aa L
  k).slots.at 1).value=((aa L k).slots.at 1).value/\aa L k=aa L k/\(aa L k).slots.at 0=(aa L k).slots.at 0/\(aa L k).slots.at 1=(aa L k).slots.at 1/\aa L k=
  aa L k/\k.oid=k.oid/\((aa L k).slots.at 0).value=((aa L k).slots.at 0).value/\((aa L k).slots.at 1).value=((aa L k).slots.at 1).value/\bE L (au L k) g=bE L
  (au L k) g'/\aa [] k=aa [] k/\Value.pointer none=Value.pointer none/\k.oid=k.oid/\((aa [] k).slots.at 0).value=((aa [] k).slots.at 0).value/\((aa [] k).slots.at
  1).value=((aa [] k).slots.at 1).value/\aa [] k=aa [] k/\(aa [] k).slots.at 0=(aa [] k).slots.at 0/\(aa [] k).slots.at 1=(aa [] k).slots.at 1/\aa [] k=
  aa [] k/\Value.pointer none=Value.pointer none/\k.oid=k.oid/\((aa [] k).slots.at 0).value=((aa [] k).slots.at 0).value/\((aa [] k).slots.at 1).value=((aa [] k).slots.at
  1).value/\aa [] k=aa [] k/\Value.pointer none=Value.pointer none/\k.oid=k.oid/\((aa [] k).slots.at 0).value=((aa [] k).slots.at 0).value/\((aa [] k).slots.at 1).value=
  ((aa [] k).slots.at 1).value/\void=void/\false=false/\aa [] k=aa [] k/\Value.pointer none=Value.pointer none/\k.oid=k.oid/\((aa [] k).slots.at 0).value=((aa []
  k).slots.at 0).value/\((aa [] k).slots.at 1).value=((aa [] k).slots.at 1).value/\r0=r0)/\((!decide ((aR [] g).kind=0))=false->(decide ((aR [] g).count=4294967295)=true->
  true=true/\r0=r0/\aG IntKind.i64 (g+1)/\∃g',iG L k g'/\(aE L k+1-g').toNat<(aE L k+1-g).toNat/\g+1=g'/\L=L/\k=k/\n=n/\void=void/\k=k/\aa L
  k=aa L k/\k.oid=k.oid/\((aa L k).slots.at 0).value=((aa L k).slots.at 0).value/\((aa L k).slots.at 1).value=((aa L k).slots.at 1).value/\aa L k=aa L k/\
  (aa L k).slots.at 0=(aa L k).slots.at 0/\(aa L k).slots.at 1=(aa L k).slots.at 1/\aa L k=aa L k/\k.oid=k.oid/\((aa L k).slots.at 0).value=((aa L
  k).slots.at 0).value/\((aa L k).slots.at 1).value=((aa L k).slots.at 1).value/\bE L (au L k) g=bE L (au L k) g'/\aa [] k=aa [] k/\Value.pointer none=
  Value.pointer none/\k.oid=k.oid/\((aa [] k).slots.at 0).value=((aa [] k).slots.at 0).value/\((aa [] k).slots.at 1).value=((aa [] k).slots.at 1).value/\aa [] k=aa []
  k/\(aa [] k).slots.at 0=(aa [] k).slots.at 0/\(aa [] k).slots.at 1=(aa [] k).slots.at 1/\aa [] k=aa [] k/\Value.pointer none=Value.pointer none/\k.oid=k.oid/\
  ((aa [] k).slots.at 0).value=((aa [] k).slots.at 0).value/\((aa [] k).slots.at 1).value=((aa [] k).slots.at 1).value/\aa [] k=aa [] k/\Value.pointer none=
  Value.pointer none/\k.oid=k.oid/\((aa [] k).slots.at 0).value=((aa [] k).slots.at 0).value/\((aa [] k).slots.at 1).value=((aa [] k).slots.at 1).value/\void=void/\false=
  false/\aa [] k=aa [] k/\Value.pointer none=Value.pointer none/\k.oid=k.oid/\((aa [] k).slots.at 0).value=((aa [] k).slots.at 0).value/\((aa [] k).slots.at 1).value=
  ((aa [] k).slots.at 1).value/\r0=r0)/\(decide ((aR [] g).count=4294967295)=false->aG IntKind.i64 ((aR [] g).count+1)/\true=true/\aG IntKind.i64 ((aR [] g).count+1)/\
  r0=r0/\aG IntKind.i64 (((aa [] k).slots.at 1).value-n)/\true=true/\((!decide ((cJ 1 g ((aR [] g).count+1)).oid<=((aa [] k).slots.at 1).value-n))=true->(void=bO L
  k n/\221=bM L k n)/\L=bu L k n)/\((!decide ((cJ 1 g ((aR [] g).count+1)).oid<=((aa [] k).slots.at 1).value-n))=false->true=true/\true=true/\∀(r0:Loop),(∃g_1,
  oP L k n g_1/\((aa [] k).slots.at 0).value=g_1/\L=L/\k=k/\n=n/\void=void/\k=k/\aa L k=aa L k/\k.oid=k.oid/\((aa L k).slots.at 0).value=((aa L
  k).slots.at 0).value/\((aa L k).slots.at 1).value=((aa L k).slots.at 1).value/\aa L k=aa L k/\(aa L k).slots.at 0=(aa L k).slots.at 0/\(aa L k).slots.at 1=
  (aa L k).slots.at 1/\aa L k=aa L k/\k.oid=k.oid/\((aa L k).slots.at 0).value=((aa L k).slots.at 0).value/\((aa L k).slots.at 1).value=((aa L k).slots.at 1).value
  /\bE L (au L k) g=bE L (au L k) g/\aa [] k=aa [] k/\Value.pointer none=Value.pointer none/\k.oid=k.oid/\((aa [] k).slots.at 0).value=((aa [] k).slots.at
  0).value/\((aa [] k).slots.at 1).value=((aa [] k).slots.at 1).value/\aa [] k=aa [] k/\(aa [] k).slots.at 0=(aa [] k).slots.at 0/\(aa [] k).slots.at 1=(aa []
  k).slots.at 1/\aa [] k=aa [] k/\Value.pointer none=Value.pointer none/\k.oid=k.oid/\((aa [] k).slots.at 0).value=((aa [] k).slots.at 0).value/\((aa [] k).slots.at
  1).value=((aa [] k).slots.at 1).value/\aa [] k=aa [] k/\Value.pointer none=Value.pointer none/\k.oid=k.oid/\((aa [] k).slots.at 0).value=((aa [] k).slots.at 0).value/\
  ((aa [] k).slots.at 1).value=((aa [] k).slots.at 1).value/\cJ 1 g ((aR [] g).count+1)=cJ 1 g ((aR [] g).count+1)/\true=true/\aa [] k=aa [] k/\Value.pointer
  none=Value.pointer none/\k.oid=k.oid/\((aa [] k).slots.at 0).value=((aa [] k).slots.at 0).value/\((aa [] k).slots.at 1).value=((aa [] k).slots.at 1).value/\aR [] g=
  aR [] g/\aR [] g=aR [] g/\cJ 1 g ((aR [] g).count+1)=cJ 1 g ((aR [] g).count+1)/\aa [] k=aa [] k/\Value.pointer none=Value.pointer none/\k.oid=k.oid/\
  ((aa [] k).slots.at 0).value=((aa [] k).slots.at 0).value/\((aa [] k).slots.at 1).value=((aa [] k).slots.at 1).value/\r0=r0)/\∀(g_1:Int),oP L k n g_1->(decide (g_1<=
  ((aa [] k).slots.at 1).value)=true->r0=r0/\r0=r0/\aG IntKind.i64 (((aa [] k).slots.at 1).value-n)/\true=true/\((!(decide (g_1<=((aa [] k).slots.at 1).value-n)||decide
  ((aR [] g_1).kind=0)||decide ((aR [] g_1).kind=3)))=true->r0=r0/\(void=bO L k n/\221=bM L k n)/\L=bu L k n)/\((!(decide (g_1<=((aa [] k).slots.at 1).value-n)
  ||decide ((aR [] g_1).kind=0)||decide ((aR [] g_1).kind=3)))=false->r0=r0/\aG IntKind.i64 (g_1+1)/\∃g',oP L k n g'/\(aE L k+1-g').toNat<(aE L k+1-
  g_1).toNat/\g_1+1=g'/\L=L/\k=k/\n=n/\void=void/\k=k/\aa L k=aa L k/\k.oid=k.oid/\((aa L k).slots.at 0).value=((aa L k).slots.at 0).value/\((aa L
  k).slots.at 1).value=((aa L k).slots.at 1).value/\aa L k=aa L k/\(aa L k).slots.at 0=(aa L k).slots.at 0/\(aa L k).slots.at 1=(aa L k).slots.at 1/\aa L k=
  aa L k/\k.oid=k.oid/\((aa L k).slots.at 0).value=((aa L k).slots.at 0).value/\((aa L k).slots.at 1).value=((aa L k).slots.at 1).value/\bE L (au L k) g=bE L
  (au L k) g/\aa [] k=aa [] k/\Value.pointer none=Value.pointer none/\k.oid=k.oid/\((aa [] k).slots.at 0).value=((aa [] k).slots.at 0).value/\((aa [] k).slots.at
  1).value=((aa [] k).slots.at 1).value/\aa [] k=aa [] k/\(aa [] k).slots.at 0=(aa [] k).slots.at 0/\(aa [] k).slots.at 1=(aa [] k).slots.at 1/\aa [] k=
  aa [] k/\Value.pointer none=Value.pointer none/\k.oid=k.oid/\((aa [] k).slots.at 0).value=((aa [] k).slots.at 0).value/\((aa [] k).slots.at 1).value=((aa [] k).slots.at
  1).value/\aa [] k=aa [] k/\Value.pointer none=Value.pointer none/\k.oid=k.oid/\((aa [] k).slots.at 0).value=((aa [] k).slots.at 0).value/\((aa [] k).slots.at 1).value=
  ((aa [] k).slots.at 1).value/\cJ 1 g ((aR [] g).count+1)=cJ 1 g ((aR [] g).count+1)/\true=true/\aa [] k=aa [] k/\Value.pointer none=Value.pointer none/\k.oid
  =k.oid/\((aa [] k).slots.at 0).value=((aa [] k).slots.at 0).value/\((aa [] k).slots.at 1).value=((aa [] k).slots.at 1).value/\aR [] g=aR [] g/\aR [] g=aR [] g/\
  cJ 1 g ((aR [] g).count+1)=cJ 1 g ((aR [] g).count+1)/\aa [] k=aa [] k/\Value.pointer none=Value.pointer none/\k.oid=k.oid/\((aa [] k).slots.at 0).value=
  ((aa [] k).slots.at 0).value/\((aa [] k).slots.at 1).value=((aa [] k).slots.at 1).value/\r0=r0))/\(decide (g_1<=((aa [] k).slots.at 1).value)=false->true=true/\true=true
  /\aG IntKind.i64 (((aa [] k).slots.at 1).value-n)/\aG IntKind.i64 (((aa [] k).slots.at 1).value-n+1)/\true=true/\true=true/\true=true/\true=true/\true=true/\aG
  IntKind.i64 (((aa [] k).slots.at 1).value-n)/\true=true/\true=true/\true=true/\False)))))/\(decide (g<=((aa [] k).slots.at 1).value)=false->true=true/\(void=bO L k n/\
  221=bM L k n)/\L=bu L k n)))))/\(bC L=false->true=true/\true=true/\((!decide (0<an L))=true->(void=bO L k n/\1=bM L k n)/\L=bu L k n)/\((!decide (0
  <an L))=false->true=true/\((!(aU L k&&decide (k.kind=4)))=true->(void=bO L k n/\190=bM L k n)/\L=bu L k n)/\((!(aU L k&&decide (k.kind=4)))=false->true=
  true/\((!(decide (((aa L k).slots.at 0).kind=1)&&decide (((aa L k).slots.at 1).kind=1)&&decide (0<=((aa L k).slots.at 0).value)&&decide (((aa L k).slots.at 0).value<=
  ((aa L k).slots.at 1).value)&&decide (((aa L k).slots.at 1).value<an L)))=true->(void=bO L k n/\220=bM L k n)/\L=bu L k n)/\((!(decide (((aa L k).slots.at
  0).kind=1)&&decide (((aa L k).slots.at 1).kind=1)&&decide (0<=((aa L k).slots.at 0).value)&&decide (((aa L k).slots.at 0).value<=((aa L k).slots.at 1).value)&&decide
  (((aa L k).slots.at 1).value<an L)))=false->true=true/\true=true/\true=true/\∀(r0:Loop),(∃g,iG L k g/\((aa L k).slots.at 0).value=g/\L=L/\k=k/\n=n/\
  void=void/\k=k/\aa L k=aa L k/\k.oid=k.oid/\((aa L k).slots.at 0).value=((aa L k).slots.at 0).value/\((aa L k).slots.at 1).value=((aa L k).slots.at 1).value/\
  aa L k=aa L k/\(aa L k).slots.at 0=(aa L k).slots.at 0/\(aa L k).slots.at 1=(aa L k).slots.at 1/\aa L k=aa L k/\k.oid=k.oid/\((aa L k).slots.at
  0).value=((aa L k).slots.at 0).value/\((aa L k).slots.at 1).value=((aa L k).slots.at 1).value/\L=bE L (au L k) g/\k=k/\aa L k=aa L k/\k.oid=k.oid/\((aa
  L k).slots.at 0).value=((aa L k).slots.at 0).value/\((aa L k).slots.at 1).value=((aa L k).slots.at 1).value/\aa L k=aa L k/\(aa L k).slots.at 0=(aa L k).slots.at
  0/\(aa L k).slots.at 1=(aa L k).slots.at 1/\aa L k=aa L k/\k.oid=k.oid/\((aa L k).slots.at 0).value=((aa L k).slots.at 0).value/\((aa L k).slots.at 1).value=
  ((aa L k).slots.at 1).value/\aa L k=aa L k/\k.oid=k.oid/\((aa L k).slots.at 0).value=((aa L k).slots.at 0).value/\((aa L k).slots.at 1).value=((aa L k).slots.at
  1).value/\void=void/\false=false/\aa L k=aa L k/\k.oid=k.oid/\((aa L k).slots.at 0).value=((aa L k).slots.at 0).value/\((aa L k).slots.at 1).value=((aa L
  k).slots.at 1).value/\r0=r0)/\∀(g:Int),iG L k g->(decide (g<=((aa L k).slots.at 1).value)=true->r0=r0/\r0=r0/\((!decide ((eu L k g).kind=0))=true->r0=r0/\aG
  IntKind.i64 (g+1)/\∃g',iG L k g'/\(aE L k+1-g').toNat<(aE L k+1-g).toNat/\g+1=g'/\L=L/\k=k/\n=n/\void=void/\k=k/\aa L k=aa L k/\k.oid=
  k.oid/\((aa L k).slots.at 0).value=((aa L k).slots.at 0).value/\((aa L k).slots.at 1).value=((aa L k).slots.at 1).value/\aa L k=aa L k/\(aa L k).slots.at 0=
  (aa L k).slots.at 0/\(aa L k).slots.at 1=(aa L k).slots.at 1/\aa L k=aa L k/\k.oid=k.oid/\((aa L k).slots.at 0).value=((aa L k).slots.at 0).value/\((aa L
  k).slots.at 1).value=((aa L k).slots.at 1).value/\bE L (au L k) g=bE L (au L k) g'/\k=k/\aa L k=aa L k/\k.oid=k.oid/\((aa L k).slots.at 0).value=((aa
  L k).slots.at 0).value/\((aa L k).slots.at 1).value=((aa L k).slots.at 1).value/\aa L k=aa L k/\(aa L k).slots.at 0=(aa L k).slots.at 0/\(aa L k).slots.at 1=
  (aa L k).slots.at 1/\aa L k=aa L k/\k.oid=k.oid/\((aa L k).slots.at 0).value=((aa L k).slots.at 0).value/\((aa L k).slots.at 1).value=((aa L k).slots.at 1).value
  /\aa L k=aa L k/\k.oid=k.oid/\((aa L k).slots.at 0).value=((aa L k).slots.at 0).value/\((aa L k).slots.at 1).value=((aa L k).slots.at 1).value/\void=void/\false=
  false/\aa L k=aa L k/\k.oid=k.oid/\((aa L k).slots.at 0).value=((aa L k).slots.at 0).value/\((aa L k).slots.at 1).value=((aa L k).slots.at 1).value/\r0=r0)/\
  ((!decide ((eu L k g).kind=0))=false->(decide ((eu L k g).count=4294967295)=true->true=true/\r0=r0/\aG IntKind.i64 (g+1)/\∃g',iG L k g'/\(aE L k+1-g').toNat<
  (aE L k+1-g).toNat/\g+1=g'/\L=L/\k=k/\n=n/\void=void/\k=k/\aa L k=aa L k/\k.oid=k.oid/\((aa L k).slots.at 0).value=((aa L k).slots.at 0).value/\
  ((aa L k).slots.at 1).value=((aa L k).slots.at 1).value/\aa L k=aa L k/\(aa L k).slots.at 0=(aa L k).slots.at 0/\(aa L k).slots.at 1=(aa L k).slots.at 1/\
  aa L k=aa L k/\k.oid=k.oid/\((aa L k).slots.at 0).value=((aa L k).slots.at 0).value/\((aa L k).slots.at 1).value=((aa L k).slots.at 1).value/\cW (bE L (au
  L k) g) g (Obj.mk 3 (eu L k g).count free.calls free.slots free.bytes)=bE L (au L k) g'/\k=k/\aa L k=aa L k/\k.oid=k.oid/\((aa L k).slots.at 0).value=((aa L
  k).slots.at 0).value/\((aa L k).slots.at 1).value=((aa L k).slots.at 1).value/\aa L k=aa L k/\(aa L k).slots.at 0=(aa L k).slots.at 0/\(aa L k).slots.at 1=
  (aa L k).slots.at 1/\aa L k=aa L k/\k.oid=k.oid/\((aa L k).slots.at 0).value=((aa L k).slots.at 0).value/\((aa L k).slots.at 1).value=((aa L k).slots.at 1).value
  /\aa L k=aa L k/\k.oid=k.oid/\((aa L k).slots.at 0).value=((aa L k).slots.at 0).value/\((aa L k).slots.at 1).value=((aa L k).slots.at 1).value/\void=void/\false=
  false/\aa L k=aa L k/\k.oid=k.oid/\((aa L k).slots.at 0).value=((aa L k).slots.at 0).value/\((aa L k).slots.at 1).value=((aa L k).slots.at 1).value/\r0=r0)/\
  (decide ((eu L k g).count=4294967295)=false->aG IntKind.i64 ((eu L k g).count+1)/\true=true/\aG IntKind.i64 ((eu L k g).count+1)/\r0=r0/\aG IntKind.i64 (((aa L
  k).slots.at 1).value-n)/\true=true/\((!decide (g<=((aa L k).slots.at 1).value-n))=true->(void=bO L k n/\221=bM L k n)/\L=bu L k n)/\((!decide (g<=((aa L
  k).slots.at 1).value-n))=false->true=true/\true=true/\∀(r0:Loop),(∃g_1,oP L k n g_1/\((aa L k).slots.at 0).value=g_1/\L=L/\k=k/\n=n/\void=void/\k=k/\aa
  L k=aa L k/\k.oid=k.oid/\((aa L k).slots.at 0).value=((aa L k).slots.at 0).value/\((aa L k).slots.at 1).value=((aa L k).slots.at 1).value/\aa L k=aa L k/\
  (aa L k).slots.at 0=(aa L k).slots.at 0/\(aa L k).slots.at 1=(aa L k).slots.at 1/\aa L k=aa L k/\k.oid=k.oid/\((aa L k).slots.at 0).value=((aa L
  k).slots.at 0).value/\((aa L k).slots.at 1).value=((aa L k).slots.at 1).value/\pA L k g=pA L k g/\k=k/\aa L k=aa L k/\k.oid=k.oid/\((aa L k).slots.at 0).value=
  ((aa L k).slots.at 0).value/\((aa L k).slots.at 1).value=((aa L k).slots.at 1).value/\aa L k=aa L k/\(aa L k).slots.at 0=(aa L k).slots.at 0/\(aa L k).slots.at
  1=(aa L k).slots.at 1/\aa L k=aa L k/\k.oid=k.oid/\((aa L k).slots.at 0).value=((aa L k).slots.at 0).value/\((aa L k).slots.at 1).value=((aa L k).slots.at
  1).value/\aa L k=aa L k/\k.oid=k.oid/\((aa L k).slots.at 0).value=((aa L k).slots.at 0).value/\((aa L k).slots.at 1).value=((aa L k).slots.at 1).value/\cJ 1 g
  ((eu L k g).count+1)=cJ 1 g ((eu L k g).count+1)/\true=true/\aa L k=aa L k/\k.oid=k.oid/\((aa L k).slots.at 0).value=((aa L k).slots.at 0).value/\((aa L
  k).slots.at 1).value=((aa L k).slots.at 1).value/\eu L k g=eu L k g/\eu L k g=eu L k g/\cJ 1 g ((eu L k g).count+1)=cJ 1 g ((eu L k g).count+1)/\aa L k=
  aa L k/\k.oid=k.oid/\((aa L k).slots.at 0).value=((aa L k).slots.at 0).value/\((aa L k).slots.at 1).value=((aa L k).slots.at 1).value/\r0=r0)/\∀(g_1:Int),oP L
  k n g_1->(decide (g_1<=((aa L k).slots.at 1).value)=true->r0=r0/\r0=r0/\aG IntKind.i64 (((aa L k).slots.at 1).value-n)/\true=true/\((!(decide (g_1<=((aa L k).slots.at
  1).value-n)||decide ((aR (pA L k g) g_1).kind=0)||decide ((aR (pA L k g) g_1).kind=3)))=true->r0=r0/\(void=bO L k n/\221=bM L k n)/\L=bu L k n)/\((!(decide
  (g_1<=((aa L k).slots.at 1).value-n)||decide ((aR (pA L k g) g_1).kind=0)||decide ((aR (pA L k g) g_1).kind=3)))=false->r0=r0/\aG IntKind.i64 (g_1+1)/\∃g',oP
  L k n g'/\(aE L k+1-g').toNat<(aE L k+1-g_1).toNat/\g_1+1=g'/\L=L/\k=k/\n=n/\void=void/\k=k/\aa L k=aa L k/\k.oid=k.oid/\((aa L k).slots.at
  0).value=((aa L k).slots.at 0).value/\((aa L k).slots.at 1).value=((aa L k).slots.at 1).value/\aa L k=aa L k/\(aa L k).slots.at 0=(aa L k).slots.at 0/\(aa L
  k).slots.at 1=(aa L k).slots.at 1/\aa L k=aa L k/\k.oid=k.oid/\((aa L k).slots.at 0).value=((aa L k).slots.at 0).value/\((aa L k).slots.at 1).value=((aa L
  k).slots.at 1).value/\pA L k g=pA L k g/\k=k/\aa L k=aa L k/\k.oid=k.oid/\((aa L k).slots.at 0).value=((aa L k).slots.at 0).value/\((aa L k).slots.at 1).value=
  ((aa L k).slots.at 1).value/\aa L k=aa L k/\(aa L k).slots.at 0=(aa L k).slots.at 0/\(aa L k).slots.at 1=(aa L k).slots.at 1/\aa L k=aa L k/\k.oid=
  k.oid/\((aa L k).slots.at 0).value=((aa L k).slots.at 0).value/\((aa L k).slots.at 1).value=((aa L k).slots.at 1).value/\aa L k=aa L k/\k.oid=k.oid/\((aa L
  k).slots.at 0).value=((aa L k).slots.at 0).value/\((aa L k).slots.at 1).value=((aa L k).slots.at 1).value/\cJ 1 g ((eu L k g).count+1)=cJ 1 g ((eu L k g).count+1)/\
  true=true/\aa L k=aa L k/\k.oid=k.oid/\((aa L k).slots.at 0).value=((aa L k).slots.at 0).value/\((aa L k).slots.at 1).value=((aa L k).slots.at 1).value/\eu L k
  g=eu L k g/\eu L k g=eu L k g/\cJ 1 g ((eu L k g).count+1)=cJ 1 g ((eu L k g).count+1)/\aa L k=aa L k/\k.oid=k.oid/\((aa L k).slots.at 0).value=
  ((aa L k).slots.at 0).value/\((aa L k).slots.at 1).value=((aa L k).slots.at 1).value/\r0=r0))/\(decide (g_1<=((aa L k).slots.at 1).value)=false->true=true/\true=true/\
  aG IntKind.i64 (((aa L k).slots.at 1).value-n)/\aG IntKind.i64 (((aa L k).slots.at 1).value-n+1)/\true=true/\true=true/\true=true/\true=true/\true=true/\aG
  IntKind.i64 (((aa L k).slots.at 1).value-n)/\true=true/\true=true/\true=true/\(aj L).le 1000/\(jo L (lF L k n g)=true->(∃g_2,ra L (bu L k n) g_2/\Value.slice
  none 0 0=Value.slice none 0 0/\0=g_2/\L=lI L (bu L k n) g_2/\k=k/\n=n/\void=void/\k=k/\aa L k=aa L k/\k.oid=k.oid/\((aa L k).slots.at 0).value=((aa L
  k).slots.at 0).value/\((aa L k).slots.at 1).value=((aa L k).slots.at 1).value/\aa L k=aa L k/\(aa L k).slots.at 0=(aa L k).slots.at 0/\(aa L k).slots.at 1=
  (aa L k).slots.at 1/\aa L k=aa L k/\k.oid=k.oid/\((aa L k).slots.at 0).value=((aa L k).slots.at 0).value/\((aa L k).slots.at 1).value=((aa L k).slots.at 1).value
  /\lF L k n g=lF L k n g/\k=k/\aa L k=aa L k/\k.oid=k.oid/\((aa L k).slots.at 0).value=((aa L k).slots.at 0).value/\((aa L k).slots.at 1).value=((aa L
  k).slots.at 1).value/\aa L k=aa L k/\(aa L k).slots.at 0=(aa L k).slots.at 0/\(aa L k).slots.at 1=(aa L k).slots.at 1/\aa L k=aa L k/\k.oid=k.oid/\
  ((aa L k).slots.at 0).value=((aa L k).slots.at 0).value/\((aa L k).slots.at 1).value=((aa L k).slots.at 1).value/\aa L k=aa L k/\k.oid=k.oid/\((aa L k).slots.at
  0).value=((aa L k).slots.at 0).value/\((aa L k).slots.at 1).value=((aa L k).slots.at 1).value/\cJ 1 g ((eu L k g).count+1)=cJ 1 g ((eu L k g).count+1)/\true=true
  /\aa L k=aa L k/\k.oid=k.oid/\((aa L k).slots.at 0).value=((aa L k).slots.at 0).value/\((aa L k).slots.at 1).value=((aa L k).slots.at 1).value/\eu L k g=eu L k
  g/\eu L k g=eu L k g/\cJ 1 g ((eu L k g).count+1)=cJ 1 g ((eu L k g).count+1)/\aa L k=aa L k/\k.oid=k.oid/\((aa L k).slots.at 0).value=((aa L
  k).slots.at 0).value/\((aa L k).slots.at 1).value=((aa L k).slots.at 1).value/\Bi L k n g=Bi L k n g/\nu (((aa L k).slots.at 1).value-n+1)=nu (((aa L k).slots.at
  1).value-n+1)/\nu ((aa L k).slots.at 1).value=nu ((aa L k).slots.at 1).value/\AS L k n g=AS L k n g/\nu (((aa L k).slots.at 1).value-n)=nu (((aa L k).slots.at
  1).value-n))/\∀(g_2:Int),ra L (bu L k n) g_2->(decide (g_2<0)=true->False)/\(decide (g_2<0)=false->(Key.mk 4 g ((eu L k g).count+1) (cJ 1 g ((eu L k g).count+
  1)).call (cJ 1 g ((eu L k g).count+1)).rights (cJ 1 g ((eu L k g).count+1)).value=bO L k n/\0=bM L k n)/\lI L (bu L k n) g_2=bu L k n))/\(jo L (lF L k n
  g)=false->(∃g_2,ra L (bu L k n) g_2/\b9 (aj (de L (lF L k n g)))=b9 (aj (de L (lF L k n g)))/\0=g_2/\L=lI L (bu L k n) g_2/\k=k/\n=n/\void=void/\k
  =k/\aa L k=aa L k/\k.oid=k.oid/\((aa L k).slots.at 0).value=((aa L k).slots.at 0).value/\((aa L k).slots.at 1).value=((aa L k).slots.at 1).value/\aa L k=
  aa L k/\(aa L k).slots.at 0=(aa L k).slots.at 0/\(aa L k).slots.at 1=(aa L k).slots.at 1/\aa L k=aa L k/\k.oid=k.oid/\((aa L k).slots.at 0).value=((aa
  L k).slots.at 0).value/\((aa L k).slots.at 1).value=((aa L k).slots.at 1).value/\lF L k n g=lF L k n g/\k=k/\aa L k=aa L k/\k.oid=k.oid/\((aa L k).slots.at
  0).value=((aa L k).slots.at 0).value/\((aa L k).slots.at 1).value=((aa L k).slots.at 1).value/\aa L k=aa L k/\(aa L k).slots.at 0=(aa L k).slots.at 0/\(aa L
  k).slots.at 1=(aa L k).slots.at 1/\aa L k=aa L k/\k.oid=k.oid/\((aa L k).slots.at 0).value=((aa L k).slots.at 0).value/\((aa L k).slots.at 1).value=((aa L
  k).slots.at 1).value/\aa L k=aa L k/\k.oid=k.oid/\((aa L k).slots.at 0).value=((aa L k).slots.at 0).value/\((aa L k).slots.at 1).value=((aa L k).slots.at 1).value/\
  cJ 1 g ((eu L k g).count+1)=cJ 1 g ((eu L k g).count+1)/\true=true/\aa L k=aa L k/\k.oid=k.oid/\((aa L k).slots.at 0).value=((aa L k).slots.at 0).value/\
  ((aa L k).slots.at 1).value=((aa L k).slots.at 1).value/\eu L k g=eu L k g/\eu L k g=eu L k g/\cJ 1 g ((eu L k g).count+1)=cJ 1 g ((eu L k g).count+1)/\
  aa L k=aa L k/\k.oid=k.oid/\((aa L k).slots.at 0).value=((aa L k).slots.at 0).value/\((aa L k).slots.at 1).value=((aa L k).slots.at 1).value/\Bi L k n g=Bi L k
  n g/\nu (((aa L k).slots.at 1).value-n+1)=nu (((aa L k).slots.at 1).value-n+1)/\nu ((aa L k).slots.at 1).value=nu ((aa L k).slots.at 1).value/\AS L k n g=AS
  L k n g/\nu (((aa L k).slots.at 1).value-n)=nu (((aa L k).slots.at 1).value-n)/\de L (lF L k n g)=de L (lF L k n g))/\∀(g_2:Int),ra L (bu L k n) g_2->
  (decide (g_2<b9 (aj (de L (lF L k n g))))=true->(0<=g_2/\g_2< ↑(aj (de L (lF L k n g))))/\g_2.toNat<aj (de L (lF L k n g))/\true=true/\aG IntKind.i64 (g_2+1)/\
  ∃g',ra L (bu L k n) g'/\(b9 (aj (de L (bu L k n)))-g').toNat<(b9 (aj (de L (bu L k n)))-g_2).toNat/\b9 (aj (de L (lF L k n g)))=b9 (aj (de L (lF L
  k n g)))/\g_2+1=g'/\cW (lI L (bu L k n) g_2) (ah (de L (lF L k n g)) g_2.toNat 0) (aR (lF L k n g) (ah (de L (lF L k n g)) g_2.toNat 0))=lI L (bu L k n) g'/\
  k=k/\n=n/\void=void/\k=k/\aa L k=aa L k/\k.oid=k.oid/\((aa L k).slots.at 0).value=((aa L k).slots.at 0).value/\((aa L k).slots.at 1).value=((aa L
  k).slots.at 1).value/\aa L k=aa L k/\(aa L k).slots.at 0=(aa L k).slots.at 0/\(aa L k).slots.at 1=(aa L k).slots.at 1/\aa L k=aa L k/\k.oid=k.oid/\
  ((aa L k).slots.at 0).value=((aa L k).slots.at 0).value/\((aa L k).slots.at 1).value=((aa L k).slots.at 1).value/\lF L k n g=lF L k n g/\k=k/\aa L k=aa L k/\
  k.oid=k.oid/\((aa L k).slots.at 0).value=((aa L k).slots.at 0).value/\((aa L k).slots.at 1).value=((aa L k).slots.at 1).value/\aa L k=aa L k/\(aa L k).slots.at 0
  =(aa L k).slots.at 0/\(aa L k).slots.at 1=(aa L k).slots.at 1/\aa L k=aa L k/\k.oid=k.oid/\((aa L k).slots.at 0).value=((aa L k).slots.at 0).value/\((aa L
  k).slots.at 1).value=((aa L k).slots.at 1).value/\aa L k=aa L k/\k.oid=k.oid/\((aa L k).slots.at 0).value=((aa L k).slots.at 0).value/\((aa L k).slots.at 1).value=
  ((aa L k).slots.at 1).value/\cJ 1 g ((eu L k g).count+1)=cJ 1 g ((eu L k g).count+1)/\true=true/\aa L k=aa L k/\k.oid=k.oid/\((aa L k).slots.at 0).value=
  ((aa L k).slots.at 0).value/\((aa L k).slots.at 1).value=((aa L k).slots.at 1).value/\eu L k g=eu L k g/\eu L k g=eu L k g/\cJ 1 g ((eu L k g).count+1)=cJ 1
  g ((eu L k g).count+1)/\aa L k=aa L k/\k.oid=k.oid/\((aa L k).slots.at 0).value=((aa L k).slots.at 0).value/\((aa L k).slots.at 1).value=((aa L k).slots.at
  1).value/\Bi L k n g=Bi L k n g/\nu (((aa L k).slots.at 1).value-n+1)=nu (((aa L k).slots.at 1).value-n+1)/\nu ((aa L k).slots.at 1).value=nu ((aa L
  k).slots.at 1).value/\AS L k n g=AS L k n g/\nu (((aa L k).slots.at 1).value-n)=nu (((aa L k).slots.at 1).value-n)/\de L (lF L k n g)=de L (lF L k n g))/\(decide
  (g_2<b9 (aj (de L (lF L k n g))))=false->(Key.mk 4 g ((eu L k g).count+1) (cJ 1 g ((eu L k g).count+1)).call (cJ 1 g ((eu L k g).count+1)).rights (cJ 1 g ((eu L k
  g).count+1)).value=bO L k n/\0=bM L k n)/\lI L (bu L k n) g_2=bu L k n)))))))/\(decide (g<=((aa L k).slots.at 1).value)=false->true=true/\(void=bO L k n/\221
  =bM L k n)/\L=bu L k n))))))))):=by
 refine⟨rfl,rfl,fun h=>oW (tx (F9 h) (by omega)) (by omega),fun h=>⟨rfl,fun h2=>oW (tx (Vg h h2) (by omega)) (by omega),fun h2=>⟨rfl,fun h3=>oW (tx (VH h h2 h3) (by omega)) (by omega),fun h3=>?_⟩⟩⟩
 obtain⟨e,e1,e2⟩:=OB h h2 h3;obtain⟨_,a0,a1,a2,a3,a4⟩:=lE e;have hkd:=zp (mi h2).1 (mi h2).2;have hlen:=kG hL;have hll:aj L=L.length:=rfl;have h3':=h3;rw[e1,e2]at h3';rw[e1,e2];have hr:∀x:Int,-1000<=x->x<=1000->aG IntKind.i64 x:=fun x h1 h2=>by simp only[aG,bY];omega
 refine⟨fun _=>hr _ (by omega) (by omega),rfl,fun h4=>oW (Ao e (by simp only[Bool.not_eq_true',Bool.and_eq_false_iff,decide_eq_false_iff_not]at h4;omega)) (by omega),fun h4=>⟨rfl,(show L.length<=1000 by omega),fun hn=>?_,fun _=>⟨rfl,rfl,fun h'=>?_,fun _=>⟨rfl,fun h'=>?_,fun _=>⟨rfl,fun h'=>?_,fun _=>⟨rfl,rfl,rfl,fun r0=>?_⟩⟩⟩⟩⟩⟩
 ·exfalso
  have:=Ys hn;omega
 ·rw[h]at h';exact absurd h' (by decide)
 ·rw[h2]at h';exact absurd h' (by decide)
 ·rw[h3']at h';exact absurd h' (by decide)
 simp only[Bool.not_eq_false',Yo,Yp]at h4;obtain⟨hn1,hn2⟩:=h4;have h0:=Fl e hn1 hn2;have hcnt:∀j:Nat,j<L.length->0<=(ah L j free).count/\(ah L j free).count<=4294967295:=fun j hj=>⟨(jg (dW hL j hj)).1,(jg (dW hL j hj)).2.1⟩
 have hci:∀j:Nat,j<L.length->aG IntKind.i64 ((ah L j free).count+1):=fun j hj=>by have:=hcnt j hj;simp only[aG,bY];omega
 refine⟨⟨au L k,⟨by omega,by omega,sd⟩,rfl,?_⟩,fun g hg=>⟨fun hgl=>?_,fun hgl=>?_⟩⟩
 ·have hx:L=bE L (au L k) (au L k):=Dc;(repeat' apply And.intro)<;>first|with_reducible rfl|exact hx
 ·obtain⟨g0,g1,g2⟩:=hg;have hgl:=Ys hgl;have hgn:g.toNat<L.length:=by omega
  have hgz:(bE L (au L k) g).length=L.length:=jK;have hO:eu L k g=ah L g.toNat free:=by unfold eu;rw[gD (by omega) (by omega),AD (by omega)]
  refine⟨rfl,rfl,fun hk0=>?_,fun hk0=>⟨fun hc=>?_,fun hc=>?_⟩⟩
  ·obtain⟨f1,f2⟩:=wA (o:=ah L g.toNat free) (by rw[<-hO];simpa using hk0)
   have hx:bE L (au L k) g=bE L (au L k) (g+1):=(xj (by omega) f1).symm
   refine⟨rfl,hr _ (by omega) (by omega),g+1,⟨by omega,by omega,iY g2 f2⟩,by omega,rfl,?_⟩
   (repeat' apply And.intro)<;>first|with_reducible rfl|exact hx
  ·rw[hO]at hk0 hc;obtain⟨f1,f2⟩:=Bp (o:=ah L g.toNat free) (by simpa using hk0) (by have:=Ys hc;omega)
   have hp:=(nn (L:=bE L (au L k) g) (i:=g) (by omega) (by omega) (hgz▸BD (dW hL g.toNat hgn))).1
   have hx:cW (bE L (au L k) g) g (Obj.mk 3 (eu L k g).count free.calls free.slots free.bytes)=bE L (au L k) (g+1):=by rw[hO];exact hp.trans (wR (by omega) (by omega) g0 f1)
   refine⟨rfl,rfl,hr _ (by omega) (by omega),g+1,⟨by omega,by omega,iY g2 f2⟩,by omega,rfl,?_⟩
   (repeat' apply And.intro)<;>first|with_reducible rfl|exact hx
  ·rw[hO]at hk0 hc;have hc:=Yr hc;have:=hcnt _ hgn;obtain⟨f1,f2⟩:=AB (o:=ah L g.toNat free) (by simpa using hk0) (by omega)
   obtain⟨i1,i2,i3,i4,i5,i6,i7,i8⟩:=R8 hL e hkd g0 hgl g2 f2;have hcg:aG IntKind.i64 ((eu L k g).count+1):=by rw[hO];exact hci _ hgn
   refine⟨hcg,rfl,hcg,rfl,hr _ (by omega) (by omega),rfl,fun hc2=>oW (tD h0 (.inr (by rw[i1];simp only[Bool.not_eq_true',decide_eq_false_iff_not]at hc2;omega))) (by omega),fun hc2=>⟨rfl,rfl,fun r1=>⟨⟨au L k,⟨by omega,by omega,FV (by omega)⟩,rfl,?_⟩,fun j hj=>⟨fun hjl=>?_,fun hjl=>?_⟩⟩⟩⟩
   ·(repeat' apply And.intro)<;>first|with_reducible rfl|exact hx
   ·obtain⟨j0,j1,j2⟩:=hj;have hjl:=Ys hjl;have hgj:aR (pA L k g) j=ah (dw L k) j.toNat free:=by rw[i3];exact gD (by omega) (by omega)
    rw[hgj];have hkk:=jg (dW i5 j.toNat (by omega))
    refine⟨rfl,rfl,hr _ (by omega) (by omega),rfl,fun hb=>⟨rfl,?_⟩,fun hb=>⟨rfl,hr _ (by omega) (by omega),j+1,⟨by omega,by omega,?_⟩,by omega,rfl,?_⟩⟩
    ·simp only[Bool.not_eq_true',Bool.or_eq_false_iff,decide_eq_false_iff_not]at hb;have hbz:lB (ah (dw L k) j.toNat free)=true:=by unfold lB;simp only[Bool.or_eq_true,Yp];omega
     exact oW (Cf h0 (C7 (by omega) (by omega) (by omega) (by omega) hbz)) (by omega)
    ·simp only[Bool.not_eq_false',Bool.or_eq_true,Yp]at hb;by_cases hjn:j<=aE L k-n
     ·exact FV (by omega)
     ·have hbz:lB (ah (dw L k) j.toNat free)=false:=by unfold lB;simp only[Bool.or_eq_false_iff,decide_eq_false_iff_not];omega
      rw[Fa (by omega) hbz];exact j2
    ·(repeat' apply And.intro)<;>first|with_reducible rfl|exact hx
   ·obtain⟨j0,j1,j2⟩:=hj;have hjl:=Yr hjl;have:j=aE L k+1:=by omega
    subst this;simp only[Bool.not_eq_false',Yp]at hc2;have hE:=Ga h0 (by rw[i1];omega) (by rw[i1];omega) j2
    obtain⟨l1,l2,l3,l4⟩:=RI hL e hkd e2 g0 hgl g2 f2 hE;rw[l1];have hul:(de L (bu L k n)).length<=L.length:=PL;have hu:b9 (aj (de L (bu L k n)))=((de L (bu L k n)).length:Int):=rfl
    refine⟨rfl,rfl,hr _ (by omega) (by omega),hr _ (by omega) (by omega),rfl,rfl,rfl,rfl,rfl,hr _ (by omega) (by omega),rfl,rfl,rfl,(show L.length<=1000 by omega),fun hno=>?_,fun _=>⟨⟨0,⟨by omega,by omega⟩,rfl,rfl,?_⟩,fun t ht=>⟨fun htl=>?_,fun htl=>⟨⟨l4,hE.symm⟩,NY l3 l2 ?_⟩⟩⟩⟩
    ·rw[Ns l3 (by omega)]at hno;exact absurd hno (by decide)
    ·have hx:L=lI L (bu L k n) 0:=rfl;(repeat' apply And.intro)<;>first|with_reducible rfl|exact hx
    ·obtain⟨t0,t1⟩:=ht;have htl:=Ys htl;rw[hu]at htl;have hx:cW (lI L (bu L k n) t) (ah (de L (bu L k n)) t.toNat 0) (aR (bu L k n) (ah (de L (bu L k n)) t.toNat 0))=lI L (bu L k n) (t+1):=IK t0;refine⟨⟨t0,htl⟩,(show t.toNat<(de L (bu L k n)).length by omega),rfl,hr _ (by omega) (by omega),t+1,⟨by omega,by omega⟩,by rw[hu];omega,rfl,rfl,?_⟩
     (repeat' apply And.intro)<;>first|with_reducible rfl|exact hx
    ·have htl:=Yr htl;rw[hu]at htl;obtain⟨t0,t1⟩:=ht;omega
 ·obtain⟨g0,g1,g2⟩:=hg;have hgl:=Yr hgl;have:g=aE L k+1:=by omega
  subst this;obtain⟨m1,m2,m3⟩:=Bl 1 g2;exact⟨rfl,oW (tD h0 (.inl (by unfold fF;rw[m1];omega))) (by omega)⟩
theorem HG (L:List Sx.Obj) (k:Key) (n:Int) (hL:aq L):ai Tryz.prog 85 [.lp 0 0,.key k,.it .i64 n] [.store tS eS L] (B8 (.tp [.key (bO L k n),.it .i64 (bM L k n)]) (bu L k n)) (fun _ _=>False):=
 aW (inl:=(fun f=>f==153||f==152||f==158||f==159||f==160||f==161||f==162||f==163||f==1000000+186)) (ann:=(iz [(3000+186,1,UP [0,1] (fun g=> [(3,.it .i64 g)]) 11 (fun g=> .store tS eS (bE L (au L k) g)) (iG L k) (yy (aE L k) 1)),(9000+186,1,Ra [0,1] (fun g=> [(3,.it .i64 g)]) (oP L k n) (yy (aE L k) 1)),(85,16,UP [0,6,7,9,10,90,91] (fun g=> [(92,.it .i64 g)]) 0 (fun g=> .store tS eS (lI L (bu L k n) g)) (ra L (bu L k n)) (b9 (aj (de L (bu L k n)))))])) (ab bB (ab bL (ab gX (ab qO ak)))) (aD dO (aD Bc (aD El aC))) (eH gr) (HP L k n hL) (by kernel_rfl)
theorem Hf:lG Tryz.prog 85 Nv:=
 mg (m:=fun x=>QT.cn x 0) (gh Bv (fun _=>rfl)) (fun _=>rfl) (fun _ _=>rfl) (fun x=>aW (inl:=(fun f=>f==153||f==152||f==158||f==159||f==160||f==161||f==162||f==163||f==1000000+186)) (ann:=aP) (ab bB (ab bL (ab gX (ab qO ak)))) (aD dO (aD Bc (aD El aC))) (eH gr) (D4 x.1 x.2.1) (by kernel_rfl)) (fun x=>aW (inl:=(fun f=>f==153||f==152||f==158||f==159||f==160||f==161||f==162||f==163||f==1000000+186)) (ann:=aP) (ab bB (ab bL (ab gX (ab qO ak)))) (aD dO (aD Bc (aD El aC))) (eH gr) (Ez x.1 x.2.1) (by kernel_rfl)) fun L x hL _ _=>HG L x.1 x.2.1 hL
end Go.Proofs.YtghpaegglbbocaaGreat
