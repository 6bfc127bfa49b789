import Derived.Test.YtghpaegglbbocaaGreatCB
import Derived.Test.YtghpaegglbbocaaGreatCQ
set_option linter.unusedSimpArgs false
set_option linter.unusedVariables false
namespace Go.Proofs.YtghpaegglbbocaaGreat
open Go.Sx
set_option maxRecDepth 100000
theorem DQ (k:Key) (n:Int):
 true=true/\true=true/\((!decide (0<ak []))=true->void=bQ [] k n/\1=bL [] k n)/\((!decide (0<ak []))=false->true=true/\((!(aU [] k&&decide (k.kind=4)))=
  true->void=bQ [] k n/\190=bL [] k n)/\((!(aU [] k&&decide (k.kind=4)))=false->true=true/\((!(decide (((aa [] k).slots.at 0).kind=1)&&decide (((aa [] k).slots.at
  1).kind=1)&&decide (0<=((aa [] k).slots.at 0).value)&&decide (((aa [] k).slots.at 0).value<=((aa [] k).slots.at 1).value)&&decide (((aa [] k).slots.at 1).value<ak [])))
  =true->void=bQ [] k n/\220=bL [] k n)/\((!(decide (((aa [] k).slots.at 0).kind=1)&&decide (((aa [] k).slots.at 1).kind=1)&&decide (0<=((aa [] k).slots.at 0).value)&&
  decide (((aa [] k).slots.at 0).value<=((aa [] k).slots.at 1).value)&&decide (((aa [] k).slots.at 1).value<ak [])))=false->(decide (1<=n)=true->aI IntKind.i64 (((aa []
  k).slots.at 1).value-((aa [] k).slots.at 0).value))/\true=true/\((!(decide (1<=n)&&decide (n<=((aa [] k).slots.at 1).value-((aa [] k).slots.at 0).value)))=true->void=bQ
  [] k n/\4=bL [] k n)/\((!(decide (1<=n)&&decide (n<=((aa [] k).slots.at 1).value-((aa [] k).slots.at 0).value)))=false->true=true/\true=true/\true=true/\((!decide (0<
  ak []))=true->void=bQ [] k n/\1=bL [] k n)/\((!decide (0<ak []))=false->true=true/\((!(aU [] k&&decide (k.kind=4)))=true->void=bQ [] k n/\190=bL [] k
  n)/\((!(aU [] k&&decide (k.kind=4)))=false->true=true/\((!(decide (((aa [] k).slots.at 0).kind=1)&&decide (((aa [] k).slots.at 1).kind=1)&&decide (0<=((aa []
  k).slots.at 0).value)&&decide (((aa [] k).slots.at 0).value<=((aa [] k).slots.at 1).value)&&decide (((aa [] k).slots.at 1).value<ak [])))=true->void=bQ [] k n/\220=
  bL [] k n)/\((!(decide (((aa [] k).slots.at 0).kind=1)&&decide (((aa [] k).slots.at 1).kind=1)&&decide (0<=((aa [] k).slots.at 0).value)&&decide (((aa [] k).slots.at
  0).value<=((aa [] k).slots.at 1).value)&&decide (((aa [] k).slots.at 1).value<ak [])))=false->true=true/\true=true/\true=true/\∀(r0:Loop),False))))))):=by
 exact⟨rfl,rfl,fun h=>(oV (tV (Ey h) (by omega)) (by omega)).1,fun h=>absurd h (by decide)⟩
theorem Ep (k:Key) (n:Int):
 true=true/\true=true/\((!decide (0<ak []))=true->void=bQ [] k n/\1=bL [] k n)/\((!decide (0<ak []))=false->true=true/\((!(aU [] k&&decide (k.kind=4)))=
  true->void=bQ [] k n/\190=bL [] k n)/\((!(aU [] k&&decide (k.kind=4)))=false->true=true/\((!(decide (((aa [] k).slots.at 0).kind=1)&&decide (((aa [] k).slots.at
  1).kind=1)&&decide (0<=((aa [] k).slots.at 0).value)&&decide (((aa [] k).slots.at 0).value<=((aa [] k).slots.at 1).value)&&decide (((aa [] k).slots.at 1).value<ak [])))
  =true->void=bQ [] k n/\220=bL [] k n)/\((!(decide (((aa [] k).slots.at 0).kind=1)&&decide (((aa [] k).slots.at 1).kind=1)&&decide (0<=((aa [] k).slots.at 0).value)&&
  decide (((aa [] k).slots.at 0).value<=((aa [] k).slots.at 1).value)&&decide (((aa [] k).slots.at 1).value<ak [])))=false->(decide (1<=n)=true->aI IntKind.i64 (((aa []
  k).slots.at 1).value-((aa [] k).slots.at 0).value))/\true=true/\((!(decide (1<=n)&&decide (n<=((aa [] k).slots.at 1).value-((aa [] k).slots.at 0).value)))=true->void=bQ
  [] k n/\4=bL [] k n)/\((!(decide (1<=n)&&decide (n<=((aa [] k).slots.at 1).value-((aa [] k).slots.at 0).value)))=false->true=true/\False)))):=by
 exact⟨rfl,rfl,fun h=>(oV (tV (Ey h) (by omega)) (by omega)).1,fun h=>absurd h (by decide)⟩
theorem Gt (L:List Sx.Obj) (k:Key) (n:Int) (hL:aq L):
 true=true/\true=true/\((!decide (0<ak L))=true->(void=bQ L k n/\1=bL L k n)/\L=bq L k n)/\((!decide (0<ak L))=false->true=true/\((!(aU L k&&decide
  (k.kind=4)))=true->(void=bQ L k n/\190=bL L k n)/\L=bq L k n)/\((!(aU L k&&decide (k.kind=4)))=false->true=true/\((!(decide (((aa L k).slots.at 0).kind=1)&&
  decide (((aa L k).slots.at 1).kind=1)&&decide (0<=((aa L k).slots.at 0).value)&&decide (((aa L k).slots.at 0).value<=((aa L k).slots.at 1).value)&&decide (((aa L
  k).slots.at 1).value<ak L)))=true->(void=bQ L k n/\220=bL L k n)/\L=bq L k n)/\((!(decide (((aa L k).slots.at 0).kind=1)&&decide (((aa L k).slots.at 1).kind=1)
  &&decide (0<=((aa L k).slots.at 0).value)&&decide (((aa L k).slots.at 0).value<=((aa L k).slots.at 1).value)&&decide (((aa L k).slots.at 1).value<ak L)))=false->(decide
  (1<=n)=true->aI IntKind.i64 (((aa L k).slots.at 1).value-((aa L k).slots.at 0).value))/\true=true/\((!(decide (1<=n)&&decide (n<=((aa L k).slots.at 1).value-((aa L
  k).slots.at 0).value)))=true->(void=bQ L k n/\4=bL L k n)/\L=bq L k n)/\((!(decide (1<=n)&&decide (n<=((aa L k).slots.at 1).value-((aa L k).slots.at 0).value)))=
  false->true=true/\(aj L).le 1000/\(bC L=true->true=true/\true=true/\((!decide (0<ak []))=true->(void=bQ L k n/\1=bL L k n)/\L=bq L k n)/\((!decide (0<
  ak []))=false->true=true/\((!(aU [] k&&decide (k.kind=4)))=true->(void=bQ L k n/\190=bL L k n)/\L=bq L k n)/\((!(aU [] k&&decide (k.kind=4)))=false->true=
  true/\((!(decide (((aa [] k).slots.at 0).kind=1)&&decide (((aa [] k).slots.at 1).kind=1)&&decide (0<=((aa [] k).slots.at 0).value)&&decide (((aa [] k).slots.at 0).value<=
  ((aa [] k).slots.at 1).value)&&decide (((aa [] k).slots.at 1).value<ak [])))=true->(void=bQ L k n/\220=bL L k n)/\L=bq L k n)/\((!(decide (((aa [] k).slots.at
  0).kind=1)&&decide (((aa [] k).slots.at 1).kind=1)&&decide (0<=((aa [] k).slots.at 0).value)&&decide (((aa [] k).slots.at 0).value<=((aa [] k).slots.at 1).value)&&decide
  (((aa [] k).slots.at 1).value<ak [])))=false->true=true/\true=true/\true=true/\∀(r0:Loop),(∃g,iB L k g/\False)/\∀(g:Int),iB L k g->(decide (g<=((aa []
  k).slots.at 1).value)=true->r0=r0/\r0=r0/\((!decide ((aR [] g).kind=0))=true->r0=r0/\aI IntKind.i64 (g+1)/\∃g',iB L k g'/\(aD L k+1-g').toNat<(aD L k+1
  -g).toNat/\g+1=g'/\L=L/\k=k/\n=n/\void=void/\k=k/\aa L k=aa L k/\k.oid=k.oid/\((aa L k).slots.at 0).value=((aa L k).slots.at 0).value/\((aa L
  k).slots.at 1).value=((aa L k).slots.at 1).value/\aa L k=aa L k/\(aa L k).slots.at 0=(aa L k).slots.at 0/\(aa L k).slots.at 1=(aa L k).slots.at 1/\aa L k=
  aa L k/\k.oid=k.oid/\((aa L k).slots.at 0).value=((aa L k).slots.at 0).value/\((aa L k).slots.at 1).value=((aa L k).slots.at 1).value/\bE L (au L k) g=bE L
  (au L k) g'/\aa [] k=aa [] k/\Value.pointer none=Value.pointer none/\k.oid=k.oid/\((aa [] k).slots.at 0).value=((aa [] k).slots.at 0).value/\((aa [] k).slots.at
  1).value=((aa [] k).slots.at 1).value/\aa [] k=aa [] k/\(aa [] k).slots.at 0=(aa [] k).slots.at 0/\(aa [] k).slots.at 1=(aa [] k).slots.at 1/\aa [] k=
  aa [] k/\Value.pointer none=Value.pointer none/\k.oid=k.oid/\((aa [] k).slots.at 0).value=((aa [] k).slots.at 0).value/\((aa [] k).slots.at 1).value=((aa [] k).slots.at
  1).value/\aa [] k=aa [] k/\Value.pointer none=Value.pointer none/\k.oid=k.oid/\((aa [] k).slots.at 0).value=((aa [] k).slots.at 0).value/\((aa [] k).slots.at 1).value=
  ((aa [] k).slots.at 1).value/\void=void/\false=false/\aa [] k=aa [] k/\Value.pointer none=Value.pointer none/\k.oid=k.oid/\((aa [] k).slots.at 0).value=((aa []
  k).slots.at 0).value/\((aa [] k).slots.at 1).value=((aa [] k).slots.at 1).value/\r0=r0)/\((!decide ((aR [] g).kind=0))=false->(decide ((aR [] g).count=4294967295)=true->
  true=true/\r0=r0/\aI IntKind.i64 (g+1)/\∃g',iB L k g'/\(aD L k+1-g').toNat<(aD L k+1-g).toNat/\g+1=g'/\L=L/\k=k/\n=n/\void=void/\k=k/\aa L
  k=aa L k/\k.oid=k.oid/\((aa L k).slots.at 0).value=((aa L k).slots.at 0).value/\((aa L k).slots.at 1).value=((aa L k).slots.at 1).value/\aa L k=aa L k/\
  (aa L k).slots.at 0=(aa L k).slots.at 0/\(aa L k).slots.at 1=(aa L k).slots.at 1/\aa L k=aa L k/\k.oid=k.oid/\((aa L k).slots.at 0).value=((aa L
  k).slots.at 0).value/\((aa L k).slots.at 1).value=((aa L k).slots.at 1).value/\bE L (au L k) g=bE L (au L k) g'/\aa [] k=aa [] k/\Value.pointer none=
  Value.pointer none/\k.oid=k.oid/\((aa [] k).slots.at 0).value=((aa [] k).slots.at 0).value/\((aa [] k).slots.at 1).value=((aa [] k).slots.at 1).value/\aa [] k=aa []
  k/\(aa [] k).slots.at 0=(aa [] k).slots.at 0/\(aa [] k).slots.at 1=(aa [] k).slots.at 1/\aa [] k=aa [] k/\Value.pointer none=Value.pointer none/\k.oid=k.oid/\
  ((aa [] k).slots.at 0).value=((aa [] k).slots.at 0).value/\((aa [] k).slots.at 1).value=((aa [] k).slots.at 1).value/\aa [] k=aa [] k/\Value.pointer none=
  Value.pointer none/\k.oid=k.oid/\((aa [] k).slots.at 0).value=((aa [] k).slots.at 0).value/\((aa [] k).slots.at 1).value=((aa [] k).slots.at 1).value/\void=void/\false=
  false/\aa [] k=aa [] k/\Value.pointer none=Value.pointer none/\k.oid=k.oid/\((aa [] k).slots.at 0).value=((aa [] k).slots.at 0).value/\((aa [] k).slots.at 1).value=
  ((aa [] k).slots.at 1).value/\r0=r0)/\(decide ((aR [] g).count=4294967295)=false->aI IntKind.i64 ((aR [] g).count+1)/\true=true/\aI IntKind.i64 ((aR [] g).count+1)/\
  r0=r0/\aI IntKind.i64 (((aa [] k).slots.at 1).value-n)/\true=true/\((!decide ((cI 1 g ((aR [] g).count+1)).oid<=((aa [] k).slots.at 1).value-n))=true->(void=bQ L
  k n/\221=bL L k n)/\L=bq L k n)/\((!decide ((cI 1 g ((aR [] g).count+1)).oid<=((aa [] k).slots.at 1).value-n))=false->true=true/\true=true/\∀(r0:Loop),(∃g_1,
  n8 L k n g_1/\((aa [] k).slots.at 0).value=g_1/\L=L/\k=k/\n=n/\void=void/\k=k/\aa L k=aa L k/\k.oid=k.oid/\((aa L k).slots.at 0).value=((aa L
  k).slots.at 0).value/\((aa L k).slots.at 1).value=((aa L k).slots.at 1).value/\aa L k=aa L k/\(aa L k).slots.at 0=(aa L k).slots.at 0/\(aa L k).slots.at 1=
  (aa L k).slots.at 1/\aa L k=aa L k/\k.oid=k.oid/\((aa L k).slots.at 0).value=((aa L k).slots.at 0).value/\((aa L k).slots.at 1).value=((aa L k).slots.at 1).value
  /\bE L (au L k) g=bE L (au L k) g/\aa [] k=aa [] k/\Value.pointer none=Value.pointer none/\k.oid=k.oid/\((aa [] k).slots.at 0).value=((aa [] k).slots.at
  0).value/\((aa [] k).slots.at 1).value=((aa [] k).slots.at 1).value/\aa [] k=aa [] k/\(aa [] k).slots.at 0=(aa [] k).slots.at 0/\(aa [] k).slots.at 1=(aa []
  k).slots.at 1/\aa [] k=aa [] k/\Value.pointer none=Value.pointer none/\k.oid=k.oid/\((aa [] k).slots.at 0).value=((aa [] k).slots.at 0).value/\((aa [] k).slots.at
  1).value=((aa [] k).slots.at 1).value/\aa [] k=aa [] k/\Value.pointer none=Value.pointer none/\k.oid=k.oid/\((aa [] k).slots.at 0).value=((aa [] k).slots.at 0).value/\
  ((aa [] k).slots.at 1).value=((aa [] k).slots.at 1).value/\cI 1 g ((aR [] g).count+1)=cI 1 g ((aR [] g).count+1)/\true=true/\aa [] k=aa [] k/\Value.pointer
  none=Value.pointer none/\k.oid=k.oid/\((aa [] k).slots.at 0).value=((aa [] k).slots.at 0).value/\((aa [] k).slots.at 1).value=((aa [] k).slots.at 1).value/\aR [] g=
  aR [] g/\aR [] g=aR [] g/\cI 1 g ((aR [] g).count+1)=cI 1 g ((aR [] g).count+1)/\aa [] k=aa [] k/\Value.pointer none=Value.pointer none/\k.oid=k.oid/\
  ((aa [] k).slots.at 0).value=((aa [] k).slots.at 0).value/\((aa [] k).slots.at 1).value=((aa [] k).slots.at 1).value/\r0=r0)/\∀(g_1:Int),n8 L k n g_1->(decide (g_1<=
  ((aa [] k).slots.at 1).value)=true->r0=r0/\r0=r0/\aI IntKind.i64 (((aa [] k).slots.at 1).value-n)/\true=true/\((!(decide (g_1<=((aa [] k).slots.at 1).value-n)||decide
  ((aR [] g_1).kind=0)||decide ((aR [] g_1).kind=3)))=true->r0=r0/\(void=bQ L k n/\221=bL L k n)/\L=bq L k n)/\((!(decide (g_1<=((aa [] k).slots.at 1).value-n)
  ||decide ((aR [] g_1).kind=0)||decide ((aR [] g_1).kind=3)))=false->r0=r0/\aI IntKind.i64 (g_1+1)/\∃g',n8 L k n g'/\(aD L k+1-g').toNat<(aD L k+1-
  g_1).toNat/\g_1+1=g'/\L=L/\k=k/\n=n/\void=void/\k=k/\aa L k=aa L k/\k.oid=k.oid/\((aa L k).slots.at 0).value=((aa L k).slots.at 0).value/\((aa L
  k).slots.at 1).value=((aa L k).slots.at 1).value/\aa L k=aa L k/\(aa L k).slots.at 0=(aa L k).slots.at 0/\(aa L k).slots.at 1=(aa L k).slots.at 1/\aa L k=
  aa L k/\k.oid=k.oid/\((aa L k).slots.at 0).value=((aa L k).slots.at 0).value/\((aa L k).slots.at 1).value=((aa L k).slots.at 1).value/\bE L (au L k) g=bE L
  (au L k) g/\aa [] k=aa [] k/\Value.pointer none=Value.pointer none/\k.oid=k.oid/\((aa [] k).slots.at 0).value=((aa [] k).slots.at 0).value/\((aa [] k).slots.at
  1).value=((aa [] k).slots.at 1).value/\aa [] k=aa [] k/\(aa [] k).slots.at 0=(aa [] k).slots.at 0/\(aa [] k).slots.at 1=(aa [] k).slots.at 1/\aa [] k=
  aa [] k/\Value.pointer none=Value.pointer none/\k.oid=k.oid/\((aa [] k).slots.at 0).value=((aa [] k).slots.at 0).value/\((aa [] k).slots.at 1).value=((aa [] k).slots.at
  1).value/\aa [] k=aa [] k/\Value.pointer none=Value.pointer none/\k.oid=k.oid/\((aa [] k).slots.at 0).value=((aa [] k).slots.at 0).value/\((aa [] k).slots.at 1).value=
  ((aa [] k).slots.at 1).value/\cI 1 g ((aR [] g).count+1)=cI 1 g ((aR [] g).count+1)/\true=true/\aa [] k=aa [] k/\Value.pointer none=Value.pointer none/\k.oid
  =k.oid/\((aa [] k).slots.at 0).value=((aa [] k).slots.at 0).value/\((aa [] k).slots.at 1).value=((aa [] k).slots.at 1).value/\aR [] g=aR [] g/\aR [] g=aR [] g/\
  cI 1 g ((aR [] g).count+1)=cI 1 g ((aR [] g).count+1)/\aa [] k=aa [] k/\Value.pointer none=Value.pointer none/\k.oid=k.oid/\((aa [] k).slots.at 0).value=
  ((aa [] k).slots.at 0).value/\((aa [] k).slots.at 1).value=((aa [] k).slots.at 1).value/\r0=r0))/\(decide (g_1<=((aa [] k).slots.at 1).value)=false->true=true/\true=true
  /\aI IntKind.i64 (((aa [] k).slots.at 1).value-n)/\aI IntKind.i64 (((aa [] k).slots.at 1).value-n+1)/\true=true/\true=true/\true=true/\true=true/\true=true/\aI
  IntKind.i64 (((aa [] k).slots.at 1).value-n)/\true=true/\true=true/\true=true/\False)))))/\(decide (g<=((aa [] k).slots.at 1).value)=false->true=true/\(void=bQ L k n/\
  221=bL L k n)/\L=bq L k n)))))/\(bC L=false->true=true/\true=true/\((!decide (0<ak L))=true->(void=bQ L k n/\1=bL L k n)/\L=bq L k n)/\((!decide (0
  <ak L))=false->true=true/\((!(aU L k&&decide (k.kind=4)))=true->(void=bQ L k n/\190=bL L k n)/\L=bq L k n)/\((!(aU L k&&decide (k.kind=4)))=false->true=
  true/\((!(decide (((aa L k).slots.at 0).kind=1)&&decide (((aa L k).slots.at 1).kind=1)&&decide (0<=((aa L k).slots.at 0).value)&&decide (((aa L k).slots.at 0).value<=
  ((aa L k).slots.at 1).value)&&decide (((aa L k).slots.at 1).value<ak L)))=true->(void=bQ L k n/\220=bL L k n)/\L=bq L k n)/\((!(decide (((aa L k).slots.at
  0).kind=1)&&decide (((aa L k).slots.at 1).kind=1)&&decide (0<=((aa L k).slots.at 0).value)&&decide (((aa L k).slots.at 0).value<=((aa L k).slots.at 1).value)&&decide
  (((aa L k).slots.at 1).value<ak L)))=false->true=true/\true=true/\true=true/\∀(r0:Loop),(∃g,iB L k g/\((aa L k).slots.at 0).value=g/\L=L/\k=k/\n=n/\
  void=void/\k=k/\aa L k=aa L k/\k.oid=k.oid/\((aa L k).slots.at 0).value=((aa L k).slots.at 0).value/\((aa L k).slots.at 1).value=((aa L k).slots.at 1).value/\
  aa L k=aa L k/\(aa L k).slots.at 0=(aa L k).slots.at 0/\(aa L k).slots.at 1=(aa L k).slots.at 1/\aa L k=aa L k/\k.oid=k.oid/\((aa L k).slots.at
  0).value=((aa L k).slots.at 0).value/\((aa L k).slots.at 1).value=((aa L k).slots.at 1).value/\L=bE L (au L k) g/\k=k/\aa L k=aa L k/\k.oid=k.oid/\((aa
  L k).slots.at 0).value=((aa L k).slots.at 0).value/\((aa L k).slots.at 1).value=((aa L k).slots.at 1).value/\aa L k=aa L k/\(aa L k).slots.at 0=(aa L k).slots.at
  0/\(aa L k).slots.at 1=(aa L k).slots.at 1/\aa L k=aa L k/\k.oid=k.oid/\((aa L k).slots.at 0).value=((aa L k).slots.at 0).value/\((aa L k).slots.at 1).value=
  ((aa L k).slots.at 1).value/\aa L k=aa L k/\k.oid=k.oid/\((aa L k).slots.at 0).value=((aa L k).slots.at 0).value/\((aa L k).slots.at 1).value=((aa L k).slots.at
  1).value/\void=void/\false=false/\aa L k=aa L k/\k.oid=k.oid/\((aa L k).slots.at 0).value=((aa L k).slots.at 0).value/\((aa L k).slots.at 1).value=((aa L
  k).slots.at 1).value/\r0=r0)/\∀(g:Int),iB L k g->(decide (g<=((aa L k).slots.at 1).value)=true->r0=r0/\r0=r0/\((!decide ((eu L k g).kind=0))=true->r0=r0/\aI
  IntKind.i64 (g+1)/\∃g',iB L k g'/\(aD L k+1-g').toNat<(aD L k+1-g).toNat/\g+1=g'/\L=L/\k=k/\n=n/\void=void/\k=k/\aa L k=aa L k/\k.oid=
  k.oid/\((aa L k).slots.at 0).value=((aa L k).slots.at 0).value/\((aa L k).slots.at 1).value=((aa L k).slots.at 1).value/\aa L k=aa L k/\(aa L k).slots.at 0=
  (aa L k).slots.at 0/\(aa L k).slots.at 1=(aa L k).slots.at 1/\aa L k=aa L k/\k.oid=k.oid/\((aa L k).slots.at 0).value=((aa L k).slots.at 0).value/\((aa L
  k).slots.at 1).value=((aa L k).slots.at 1).value/\bE L (au L k) g=bE L (au L k) g'/\k=k/\aa L k=aa L k/\k.oid=k.oid/\((aa L k).slots.at 0).value=((aa
  L k).slots.at 0).value/\((aa L k).slots.at 1).value=((aa L k).slots.at 1).value/\aa L k=aa L k/\(aa L k).slots.at 0=(aa L k).slots.at 0/\(aa L k).slots.at 1=
  (aa L k).slots.at 1/\aa L k=aa L k/\k.oid=k.oid/\((aa L k).slots.at 0).value=((aa L k).slots.at 0).value/\((aa L k).slots.at 1).value=((aa L k).slots.at 1).value
  /\aa L k=aa L k/\k.oid=k.oid/\((aa L k).slots.at 0).value=((aa L k).slots.at 0).value/\((aa L k).slots.at 1).value=((aa L k).slots.at 1).value/\void=void/\false=
  false/\aa L k=aa L k/\k.oid=k.oid/\((aa L k).slots.at 0).value=((aa L k).slots.at 0).value/\((aa L k).slots.at 1).value=((aa L k).slots.at 1).value/\r0=r0)/\
  ((!decide ((eu L k g).kind=0))=false->(decide ((eu L k g).count=4294967295)=true->true=true/\r0=r0/\aI IntKind.i64 (g+1)/\∃g',iB L k g'/\(aD L k+1-g').toNat<
  (aD L k+1-g).toNat/\g+1=g'/\L=L/\k=k/\n=n/\void=void/\k=k/\aa L k=aa L k/\k.oid=k.oid/\((aa L k).slots.at 0).value=((aa L k).slots.at 0).value/\
  ((aa L k).slots.at 1).value=((aa L k).slots.at 1).value/\aa L k=aa L k/\(aa L k).slots.at 0=(aa L k).slots.at 0/\(aa L k).slots.at 1=(aa L k).slots.at 1/\
  aa L k=aa L k/\k.oid=k.oid/\((aa L k).slots.at 0).value=((aa L k).slots.at 0).value/\((aa L k).slots.at 1).value=((aa L k).slots.at 1).value/\cW (bE L (au
  L k) g) g (Obj.mk 3 (eu L k g).count free.calls free.slots free.bytes)=bE L (au L k) g'/\k=k/\aa L k=aa L k/\k.oid=k.oid/\((aa L k).slots.at 0).value=((aa L
  k).slots.at 0).value/\((aa L k).slots.at 1).value=((aa L k).slots.at 1).value/\aa L k=aa L k/\(aa L k).slots.at 0=(aa L k).slots.at 0/\(aa L k).slots.at 1=
  (aa L k).slots.at 1/\aa L k=aa L k/\k.oid=k.oid/\((aa L k).slots.at 0).value=((aa L k).slots.at 0).value/\((aa L k).slots.at 1).value=((aa L k).slots.at 1).value
  /\aa L k=aa L k/\k.oid=k.oid/\((aa L k).slots.at 0).value=((aa L k).slots.at 0).value/\((aa L k).slots.at 1).value=((aa L k).slots.at 1).value/\void=void/\false=
  false/\aa L k=aa L k/\k.oid=k.oid/\((aa L k).slots.at 0).value=((aa L k).slots.at 0).value/\((aa L k).slots.at 1).value=((aa L k).slots.at 1).value/\r0=r0)/\
  (decide ((eu L k g).count=4294967295)=false->aI IntKind.i64 ((eu L k g).count+1)/\true=true/\aI IntKind.i64 ((eu L k g).count+1)/\r0=r0/\aI IntKind.i64 (((aa L
  k).slots.at 1).value-n)/\true=true/\((!decide (g<=((aa L k).slots.at 1).value-n))=true->(void=bQ L k n/\221=bL L k n)/\L=bq L k n)/\((!decide (g<=((aa L
  k).slots.at 1).value-n))=false->true=true/\true=true/\∀(r0:Loop),(∃g_1,n8 L k n g_1/\((aa L k).slots.at 0).value=g_1/\L=L/\k=k/\n=n/\void=void/\k=k/\aa
  L k=aa L k/\k.oid=k.oid/\((aa L k).slots.at 0).value=((aa L k).slots.at 0).value/\((aa L k).slots.at 1).value=((aa L k).slots.at 1).value/\aa L k=aa L k/\
  (aa L k).slots.at 0=(aa L k).slots.at 0/\(aa L k).slots.at 1=(aa L k).slots.at 1/\aa L k=aa L k/\k.oid=k.oid/\((aa L k).slots.at 0).value=((aa L
  k).slots.at 0).value/\((aa L k).slots.at 1).value=((aa L k).slots.at 1).value/\pd L k g=pd L k g/\k=k/\aa L k=aa L k/\k.oid=k.oid/\((aa L k).slots.at 0).value=
  ((aa L k).slots.at 0).value/\((aa L k).slots.at 1).value=((aa L k).slots.at 1).value/\aa L k=aa L k/\(aa L k).slots.at 0=(aa L k).slots.at 0/\(aa L k).slots.at
  1=(aa L k).slots.at 1/\aa L k=aa L k/\k.oid=k.oid/\((aa L k).slots.at 0).value=((aa L k).slots.at 0).value/\((aa L k).slots.at 1).value=((aa L k).slots.at
  1).value/\aa L k=aa L k/\k.oid=k.oid/\((aa L k).slots.at 0).value=((aa L k).slots.at 0).value/\((aa L k).slots.at 1).value=((aa L k).slots.at 1).value/\cI 1 g
  ((eu L k g).count+1)=cI 1 g ((eu L k g).count+1)/\true=true/\aa L k=aa L k/\k.oid=k.oid/\((aa L k).slots.at 0).value=((aa L k).slots.at 0).value/\((aa L
  k).slots.at 1).value=((aa L k).slots.at 1).value/\eu L k g=eu L k g/\eu L k g=eu L k g/\cI 1 g ((eu L k g).count+1)=cI 1 g ((eu L k g).count+1)/\aa L k=
  aa L k/\k.oid=k.oid/\((aa L k).slots.at 0).value=((aa L k).slots.at 0).value/\((aa L k).slots.at 1).value=((aa L k).slots.at 1).value/\r0=r0)/\∀(g_1:Int),n8 L
  k n g_1->(decide (g_1<=((aa L k).slots.at 1).value)=true->r0=r0/\r0=r0/\aI IntKind.i64 (((aa L k).slots.at 1).value-n)/\true=true/\((!(decide (g_1<=((aa L k).slots.at
  1).value-n)||decide ((aR (pd L k g) g_1).kind=0)||decide ((aR (pd L k g) g_1).kind=3)))=true->r0=r0/\(void=bQ L k n/\221=bL L k n)/\L=bq L k n)/\((!(decide
  (g_1<=((aa L k).slots.at 1).value-n)||decide ((aR (pd L k g) g_1).kind=0)||decide ((aR (pd L k g) g_1).kind=3)))=false->r0=r0/\aI IntKind.i64 (g_1+1)/\∃g',n8
  L k n g'/\(aD L k+1-g').toNat<(aD L k+1-g_1).toNat/\g_1+1=g'/\L=L/\k=k/\n=n/\void=void/\k=k/\aa L k=aa L k/\k.oid=k.oid/\((aa L k).slots.at
  0).value=((aa L k).slots.at 0).value/\((aa L k).slots.at 1).value=((aa L k).slots.at 1).value/\aa L k=aa L k/\(aa L k).slots.at 0=(aa L k).slots.at 0/\(aa L
  k).slots.at 1=(aa L k).slots.at 1/\aa L k=aa L k/\k.oid=k.oid/\((aa L k).slots.at 0).value=((aa L k).slots.at 0).value/\((aa L k).slots.at 1).value=((aa L
  k).slots.at 1).value/\pd L k g=pd L k g/\k=k/\aa L k=aa L k/\k.oid=k.oid/\((aa L k).slots.at 0).value=((aa L k).slots.at 0).value/\((aa L k).slots.at 1).value=
  ((aa L k).slots.at 1).value/\aa L k=aa L k/\(aa L k).slots.at 0=(aa L k).slots.at 0/\(aa L k).slots.at 1=(aa L k).slots.at 1/\aa L k=aa L k/\k.oid=
  k.oid/\((aa L k).slots.at 0).value=((aa L k).slots.at 0).value/\((aa L k).slots.at 1).value=((aa L k).slots.at 1).value/\aa L k=aa L k/\k.oid=k.oid/\((aa L
  k).slots.at 0).value=((aa L k).slots.at 0).value/\((aa L k).slots.at 1).value=((aa L k).slots.at 1).value/\cI 1 g ((eu L k g).count+1)=cI 1 g ((eu L k g).count+1)/\
  true=true/\aa L k=aa L k/\k.oid=k.oid/\((aa L k).slots.at 0).value=((aa L k).slots.at 0).value/\((aa L k).slots.at 1).value=((aa L k).slots.at 1).value/\eu L k
  g=eu L k g/\eu L k g=eu L k g/\cI 1 g ((eu L k g).count+1)=cI 1 g ((eu L k g).count+1)/\aa L k=aa L k/\k.oid=k.oid/\((aa L k).slots.at 0).value=
  ((aa L k).slots.at 0).value/\((aa L k).slots.at 1).value=((aa L k).slots.at 1).value/\r0=r0))/\(decide (g_1<=((aa L k).slots.at 1).value)=false->true=true/\true=true/\
  aI IntKind.i64 (((aa L k).slots.at 1).value-n)/\aI IntKind.i64 (((aa L k).slots.at 1).value-n+1)/\true=true/\true=true/\true=true/\true=true/\true=true/\aI
  IntKind.i64 (((aa L k).slots.at 1).value-n)/\true=true/\true=true/\true=true/\(aj L).le 1000/\(iW L (lq L k n g)=true->(∃g_2,qC L (bq L k n) g_2/\Value.slice
  none 0 0=Value.slice none 0 0/\0=g_2/\L=lC L (bq L k n) g_2/\k=k/\n=n/\void=void/\k=k/\aa L k=aa L k/\k.oid=k.oid/\((aa L k).slots.at 0).value=((aa L
  k).slots.at 0).value/\((aa L k).slots.at 1).value=((aa L k).slots.at 1).value/\aa L k=aa L k/\(aa L k).slots.at 0=(aa L k).slots.at 0/\(aa L k).slots.at 1=
  (aa L k).slots.at 1/\aa L k=aa L k/\k.oid=k.oid/\((aa L k).slots.at 0).value=((aa L k).slots.at 0).value/\((aa L k).slots.at 1).value=((aa L k).slots.at 1).value
  /\lq L k n g=lq L k n g/\k=k/\aa L k=aa L k/\k.oid=k.oid/\((aa L k).slots.at 0).value=((aa L k).slots.at 0).value/\((aa L k).slots.at 1).value=((aa L
  k).slots.at 1).value/\aa L k=aa L k/\(aa L k).slots.at 0=(aa L k).slots.at 0/\(aa L k).slots.at 1=(aa L k).slots.at 1/\aa L k=aa L k/\k.oid=k.oid/\
  ((aa L k).slots.at 0).value=((aa L k).slots.at 0).value/\((aa L k).slots.at 1).value=((aa L k).slots.at 1).value/\aa L k=aa L k/\k.oid=k.oid/\((aa L k).slots.at
  0).value=((aa L k).slots.at 0).value/\((aa L k).slots.at 1).value=((aa L k).slots.at 1).value/\cI 1 g ((eu L k g).count+1)=cI 1 g ((eu L k g).count+1)/\true=true
  /\aa L k=aa L k/\k.oid=k.oid/\((aa L k).slots.at 0).value=((aa L k).slots.at 0).value/\((aa L k).slots.at 1).value=((aa L k).slots.at 1).value/\eu L k g=eu L k
  g/\eu L k g=eu L k g/\cI 1 g ((eu L k g).count+1)=cI 1 g ((eu L k g).count+1)/\aa L k=aa L k/\k.oid=k.oid/\((aa L k).slots.at 0).value=((aa L
  k).slots.at 0).value/\((aa L k).slots.at 1).value=((aa L k).slots.at 1).value/\A4 L k n g=A4 L k n g/\nr (((aa L k).slots.at 1).value-n+1)=nr (((aa L k).slots.at
  1).value-n+1)/\nr ((aa L k).slots.at 1).value=nr ((aa L k).slots.at 1).value/\Ad L k n g=Ad L k n g/\nr (((aa L k).slots.at 1).value-n)=nr (((aa L k).slots.at
  1).value-n))/\∀(g_2:Int),qC L (bq L k n) g_2->(decide (g_2<0)=true->False)/\(decide (g_2<0)=false->(Key.mk 4 g ((eu L k g).count+1) (cI 1 g ((eu L k g).count+
  1)).call (cI 1 g ((eu L k g).count+1)).rights (cI 1 g ((eu L k g).count+1)).value=bQ L k n/\0=bL L k n)/\lC L (bq L k n) g_2=bq L k n))/\(iW L (lq L k n
  g)=false->(∃g_2,qC L (bq L k n) g_2/\cw (aj (dg L (lq L k n g)))=cw (aj (dg L (lq L k n g)))/\0=g_2/\L=lC L (bq L k n) g_2/\k=k/\n=n/\void=void/\k
  =k/\aa L k=aa L k/\k.oid=k.oid/\((aa L k).slots.at 0).value=((aa L k).slots.at 0).value/\((aa L k).slots.at 1).value=((aa L k).slots.at 1).value/\aa L k=
  aa L k/\(aa L k).slots.at 0=(aa L k).slots.at 0/\(aa L k).slots.at 1=(aa L k).slots.at 1/\aa L k=aa L k/\k.oid=k.oid/\((aa L k).slots.at 0).value=((aa
  L k).slots.at 0).value/\((aa L k).slots.at 1).value=((aa L k).slots.at 1).value/\lq L k n g=lq L k n g/\k=k/\aa L k=aa L k/\k.oid=k.oid/\((aa L k).slots.at
  0).value=((aa L k).slots.at 0).value/\((aa L k).slots.at 1).value=((aa L k).slots.at 1).value/\aa L k=aa L k/\(aa L k).slots.at 0=(aa L k).slots.at 0/\(aa L
  k).slots.at 1=(aa L k).slots.at 1/\aa L k=aa L k/\k.oid=k.oid/\((aa L k).slots.at 0).value=((aa L k).slots.at 0).value/\((aa L k).slots.at 1).value=((aa L
  k).slots.at 1).value/\aa L k=aa L k/\k.oid=k.oid/\((aa L k).slots.at 0).value=((aa L k).slots.at 0).value/\((aa L k).slots.at 1).value=((aa L k).slots.at 1).value/\
  cI 1 g ((eu L k g).count+1)=cI 1 g ((eu L k g).count+1)/\true=true/\aa L k=aa L k/\k.oid=k.oid/\((aa L k).slots.at 0).value=((aa L k).slots.at 0).value/\
  ((aa L k).slots.at 1).value=((aa L k).slots.at 1).value/\eu L k g=eu L k g/\eu L k g=eu L k g/\cI 1 g ((eu L k g).count+1)=cI 1 g ((eu L k g).count+1)/\
  aa L k=aa L k/\k.oid=k.oid/\((aa L k).slots.at 0).value=((aa L k).slots.at 0).value/\((aa L k).slots.at 1).value=((aa L k).slots.at 1).value/\A4 L k n g=A4 L k
  n g/\nr (((aa L k).slots.at 1).value-n+1)=nr (((aa L k).slots.at 1).value-n+1)/\nr ((aa L k).slots.at 1).value=nr ((aa L k).slots.at 1).value/\Ad L k n g=Ad
  L k n g/\nr (((aa L k).slots.at 1).value-n)=nr (((aa L k).slots.at 1).value-n)/\dg L (lq L k n g)=dg L (lq L k n g))/\∀(g_2:Int),qC L (bq L k n) g_2->
  (decide (g_2<cw (aj (dg L (lq L k n g))))=true->(0<=g_2/\g_2< ↑(aj (dg L (lq L k n g))))/\g_2.toNat<aj (dg L (lq L k n g))/\true=true/\aI IntKind.i64 (g_2+1)/\
  ∃g',qC L (bq L k n) g'/\(cw (aj (dg L (bq L k n)))-g').toNat<(cw (aj (dg L (bq L k n)))-g_2).toNat/\cw (aj (dg L (lq L k n g)))=cw (aj (dg L (lq L
  k n g)))/\g_2+1=g'/\cW (lC L (bq L k n) g_2) (ah (dg L (lq L k n g)) g_2.toNat 0) (aR (lq L k n g) (ah (dg L (lq L k n g)) g_2.toNat 0))=lC L (bq L k n) g'/\
  k=k/\n=n/\void=void/\k=k/\aa L k=aa L k/\k.oid=k.oid/\((aa L k).slots.at 0).value=((aa L k).slots.at 0).value/\((aa L k).slots.at 1).value=((aa L
  k).slots.at 1).value/\aa L k=aa L k/\(aa L k).slots.at 0=(aa L k).slots.at 0/\(aa L k).slots.at 1=(aa L k).slots.at 1/\aa L k=aa L k/\k.oid=k.oid/\
  ((aa L k).slots.at 0).value=((aa L k).slots.at 0).value/\((aa L k).slots.at 1).value=((aa L k).slots.at 1).value/\lq L k n g=lq L k n g/\k=k/\aa L k=aa L k/\
  k.oid=k.oid/\((aa L k).slots.at 0).value=((aa L k).slots.at 0).value/\((aa L k).slots.at 1).value=((aa L k).slots.at 1).value/\aa L k=aa L k/\(aa L k).slots.at 0
  =(aa L k).slots.at 0/\(aa L k).slots.at 1=(aa L k).slots.at 1/\aa L k=aa L k/\k.oid=k.oid/\((aa L k).slots.at 0).value=((aa L k).slots.at 0).value/\((aa L
  k).slots.at 1).value=((aa L k).slots.at 1).value/\aa L k=aa L k/\k.oid=k.oid/\((aa L k).slots.at 0).value=((aa L k).slots.at 0).value/\((aa L k).slots.at 1).value=
  ((aa L k).slots.at 1).value/\cI 1 g ((eu L k g).count+1)=cI 1 g ((eu L k g).count+1)/\true=true/\aa L k=aa L k/\k.oid=k.oid/\((aa L k).slots.at 0).value=
  ((aa L k).slots.at 0).value/\((aa L k).slots.at 1).value=((aa L k).slots.at 1).value/\eu L k g=eu L k g/\eu L k g=eu L k g/\cI 1 g ((eu L k g).count+1)=cI 1
  g ((eu L k g).count+1)/\aa L k=aa L k/\k.oid=k.oid/\((aa L k).slots.at 0).value=((aa L k).slots.at 0).value/\((aa L k).slots.at 1).value=((aa L k).slots.at
  1).value/\A4 L k n g=A4 L k n g/\nr (((aa L k).slots.at 1).value-n+1)=nr (((aa L k).slots.at 1).value-n+1)/\nr ((aa L k).slots.at 1).value=nr ((aa L
  k).slots.at 1).value/\Ad L k n g=Ad L k n g/\nr (((aa L k).slots.at 1).value-n)=nr (((aa L k).slots.at 1).value-n)/\dg L (lq L k n g)=dg L (lq L k n g))/\(decide
  (g_2<cw (aj (dg L (lq L k n g))))=false->(Key.mk 4 g ((eu L k g).count+1) (cI 1 g ((eu L k g).count+1)).call (cI 1 g ((eu L k g).count+1)).rights (cI 1 g ((eu L k
  g).count+1)).value=bQ L k n/\0=bL L k n)/\lC L (bq L k n) g_2=bq L k n)))))))/\(decide (g<=((aa L k).slots.at 1).value)=false->true=true/\(void=bQ L k n/\221
  =bL L k n)/\L=bq L k n))))))))):=by
 refine⟨rfl,rfl,fun h=>oV (tV (Ey h) (by omega)) (by omega),fun h=>⟨rfl,fun h2=>oV (tV (UJ h h2) (by omega)) (by omega),fun h2=>⟨rfl,fun h3=>oV (tV (Vb h h2 h3) (by omega)) (by omega),fun h3=>?_⟩⟩⟩
 obtain⟨e,e1,e2⟩:=Qj h h2 h3;obtain⟨_,a0,a1,a2,a3,a4⟩:=lr e;have hkd:=ze (mF h2).1 (mF h2).2;have hlen:=ku hL;have hll:aj L=L.length:=rfl;have h3':=h3;rw[e1,e2]at h3';rw[e1,e2];have hr:∀x:Int,-1000<=x->x<=1000->aI IntKind.i64 x:=fun x h1 h2=>by simp only[aI,cg];omega
 refine⟨fun _=>hr _ (by omega) (by omega),rfl,fun h4=>oV (zj e (by simp only[Bool.not_eq_true',Bool.and_eq_false_iff,decide_eq_false_iff_not]at h4;omega)) (by omega),fun h4=>⟨rfl,(show L.length<=1000 by omega),fun hn=>?_,fun _=>⟨rfl,rfl,fun h'=>?_,fun _=>⟨rfl,fun h'=>?_,fun _=>⟨rfl,fun h'=>?_,fun _=>⟨rfl,rfl,rfl,fun r0=>?_⟩⟩⟩⟩⟩⟩
 ·exfalso
  have:=XO hn;omega
 ·rw[h]at h';exact absurd h' (by decide)
 ·rw[h2]at h';exact absurd h' (by decide)
 ·rw[h3']at h';exact absurd h' (by decide)
 simp only[Bool.not_eq_false',XK,XL]at h4;obtain⟨hn1,hn2⟩:=h4;have h0:=ER e hn1 hn2;have hcnt:∀j:Nat,j<L.length->0<=(ah L j free).count/\(ah L j free).count<=4294967295:=fun j hj=>⟨(jd (dW hL j hj)).1,(jd (dW hL j hj)).2.1⟩
 have hci:∀j:Nat,j<L.length->aI IntKind.i64 ((ah L j free).count+1):=fun j hj=>by have:=hcnt j hj;simp only[aI,cg];omega
 refine⟨⟨au L k,⟨by omega,by omega,rG⟩,rfl,?_⟩,fun g hg=>⟨fun hgl=>?_,fun hgl=>?_⟩⟩
 ·have hx:L=bE L (au L k) (au L k):=Cf;(repeat' apply And.intro)<;>first|with_reducible rfl|exact hx
 ·obtain⟨g0,g1,g2⟩:=hg;have hgl:=XO hgl;have hgn:g.toNat<L.length:=by omega
  have hgz:(bE L (au L k) g).length=L.length:=jH;have hO:eu L k g=ah L g.toNat free:=by unfold eu;rw[gF (by omega) (by omega),AQ (by omega)]
  refine⟨rfl,rfl,fun hk0=>?_,fun hk0=>⟨fun hc=>?_,fun hc=>?_⟩⟩
  ·obtain⟨f1,f2⟩:=wb (o:=ah L g.toNat free) (by rw[<-hO];simpa using hk0)
   have hx:bE L (au L k) g=bE L (au L k) (g+1):=(xN (by omega) f1).symm
   refine⟨rfl,hr _ (by omega) (by omega),g+1,⟨by omega,by omega,iS g2 f2⟩,by omega,rfl,?_⟩
   (repeat' apply And.intro)<;>first|with_reducible rfl|exact hx
  ·rw[hO]at hk0 hc;obtain⟨f1,f2⟩:=z7 (o:=ah L g.toNat free) (by simpa using hk0) (by have:=XO hc;omega)
   have hp:=(nt (L:=bE L (au L k) g) (i:=g) (by omega) (by omega) (hgz▸Bc (dW hL g.toNat hgn))).1
   have hx:cW (bE L (au L k) g) g (Obj.mk 3 (eu L k g).count free.calls free.slots free.bytes)=bE L (au L k) (g+1):=by rw[hO];exact hp.trans (vP (by omega) (by omega) g0 f1)
   refine⟨rfl,rfl,hr _ (by omega) (by omega),g+1,⟨by omega,by omega,iS g2 f2⟩,by omega,rfl,?_⟩
   (repeat' apply And.intro)<;>first|with_reducible rfl|exact hx
  ·rw[hO]at hk0 hc;have hc:=XN hc;have:=hcnt _ hgn;obtain⟨f1,f2⟩:=AH (o:=ah L g.toNat free) (by simpa using hk0) (by omega)
   obtain⟨i1,i2,i3,i4,i5,i6,i7,i8⟩:=Rw hL e hkd g0 hgl g2 f2;have hcg:aI IntKind.i64 ((eu L k g).count+1):=by rw[hO];exact hci _ hgn
   refine⟨hcg,rfl,hcg,rfl,hr _ (by omega) (by omega),rfl,fun hc2=>oV (tQ h0 (.inr (by rw[i1];simp only[Bool.not_eq_true',decide_eq_false_iff_not]at hc2;omega))) (by omega),fun hc2=>⟨rfl,rfl,fun r1=>⟨⟨au L k,⟨by omega,by omega,Fm (by omega)⟩,rfl,?_⟩,fun j hj=>⟨fun hjl=>?_,fun hjl=>?_⟩⟩⟩⟩
   ·(repeat' apply And.intro)<;>first|with_reducible rfl|exact hx
   ·obtain⟨j0,j1,j2⟩:=hj;have hjl:=XO hjl;have hgj:aR (pd L k g) j=ah (dw L k) j.toNat free:=by rw[i3];exact gF (by omega) (by omega)
    rw[hgj];have hkk:=jd (dW i5 j.toNat (by omega))
    refine⟨rfl,rfl,hr _ (by omega) (by omega),rfl,fun hb=>⟨rfl,?_⟩,fun hb=>⟨rfl,hr _ (by omega) (by omega),j+1,⟨by omega,by omega,?_⟩,by omega,rfl,?_⟩⟩
    ·simp only[Bool.not_eq_true',Bool.or_eq_false_iff,decide_eq_false_iff_not]at hb;have hbz:lg (ah (dw L k) j.toNat free)=true:=by unfold lg;simp only[Bool.or_eq_true,XL];omega
     exact oV (BG h0 (C4 (by omega) (by omega) (by omega) (by omega) hbz)) (by omega)
    ·simp only[Bool.not_eq_false',Bool.or_eq_true,XL]at hb;by_cases hjn:j<=aD L k-n
     ·exact Fm (by omega)
     ·have hbz:lg (ah (dw L k) j.toNat free)=false:=by unfold lg;simp only[Bool.or_eq_false_iff,decide_eq_false_iff_not];omega
      rw[FG (by omega) hbz];exact j2
    ·(repeat' apply And.intro)<;>first|with_reducible rfl|exact hx
   ·obtain⟨j0,j1,j2⟩:=hj;have hjl:=XN hjl;have:j=aD L k+1:=by omega
    subst this;simp only[Bool.not_eq_false',XL]at hc2;have hE:=FL h0 (by rw[i1];omega) (by rw[i1];omega) j2
    obtain⟨l1,l2,l3,l4⟩:=QU hL e hkd e2 g0 hgl g2 f2 hE;rw[l1];have hul:(dg L (bq L k n)).length<=L.length:=PM;have hu:cw (aj (dg L (bq L k n)))=((dg L (bq L k n)).length:Int):=rfl
    refine⟨rfl,rfl,hr _ (by omega) (by omega),hr _ (by omega) (by omega),rfl,rfl,rfl,rfl,rfl,hr _ (by omega) (by omega),rfl,rfl,rfl,(show L.length<=1000 by omega),fun hno=>?_,fun _=>⟨⟨0,⟨by omega,by omega⟩,rfl,rfl,?_⟩,fun t ht=>⟨fun htl=>?_,fun htl=>⟨⟨l4,hE.symm⟩,QB l3 l2 ?_⟩⟩⟩⟩
    ·rw[JK l3 (by omega)]at hno;exact absurd hno (by decide)
    ·have hx:L=lC L (bq L k n) 0:=rfl;(repeat' apply And.intro)<;>first|with_reducible rfl|exact hx
    ·obtain⟨t0,t1⟩:=ht;have htl:=XO htl;rw[hu]at htl;have hx:cW (lC L (bq L k n) t) (ah (dg L (bq L k n)) t.toNat 0) (aR (bq L k n) (ah (dg L (bq L k n)) t.toNat 0))=lC L (bq L k n) (t+1):=ML t0;refine⟨⟨t0,htl⟩,(show t.toNat<(dg L (bq L k n)).length by omega),rfl,hr _ (by omega) (by omega),t+1,⟨by omega,by omega⟩,by rw[hu];omega,rfl,rfl,?_⟩
     (repeat' apply And.intro)<;>first|with_reducible rfl|exact hx
    ·have htl:=XN htl;rw[hu]at htl;obtain⟨t0,t1⟩:=ht;omega
 ·obtain⟨g0,g1,g2⟩:=hg;have hgl:=XN hgl;have:g=aD L k+1:=by omega
  subst this;obtain⟨m1,m2,m3⟩:=A3 1 g2;exact⟨rfl,oV (tQ h0 (.inl (by unfold fE;rw[m1];omega))) (by omega)⟩
theorem GP (L:List Sx.Obj) (k:Key) (n:Int) (hL:aq L):ai Tryz.prog 85 [.lp 0 0,.key k,.it .i64 n] [.store tS eS L] (CP (.tp [.key (bQ L k n),.it .i64 (bL L k n)]) (bq L k n)) (fun _ _=>False):=
 aV (inl:=(fun f=>f==153||f==152||f==158||f==159||f==160||f==161||f==162||f==163||f==1000000+186)) (ann:=(jC [(3000+186,1,Uh [0,1] (fun g=> [(3,.it .i64 g)]) 11 (fun g=> .store tS eS (bE L (au L k) g)) (iB L k) (xb (aD L k) 1)),(9000+186,1,T2 [0,1] (fun g=> [(3,.it .i64 g)]) (n8 L k n) (xb (aD L k) 1)),(85,16,Uh [0,6,7,9,10,90,91] (fun g=> [(92,.it .i64 g)]) 0 (fun g=> .store tS eS (lC L (bq L k n) g)) (qC L (bq L k n)) (cw (aj (dg L (bq L k n)))))])) (ae bB (ae bK (ae gW (ae qt an)))) (aF dM (aF z8 (aF Er aC))) (eD gp) (Gt L k n hL) (by kernel_rfl)
theorem F7:ll Tryz.prog 85 Mz:=
 mj (m:=fun x=>Py.cn x 0) (gg AE (fun _=>rfl)) (fun _=>rfl) (fun _ _=>rfl) (fun x=>aV (inl:=(fun f=>f==153||f==152||f==158||f==159||f==160||f==161||f==162||f==163||f==1000000+186)) (ann:=aP) (ae bB (ae bK (ae gW (ae qt an)))) (aF dM (aF z8 (aF Er aC))) (eD gp) (DQ x.1 x.2.1) (by kernel_rfl)) (fun x=>aV (inl:=(fun f=>f==153||f==152||f==158||f==159||f==160||f==161||f==162||f==163||f==1000000+186)) (ann:=aP) (ae bB (ae bK (ae gW (ae qt an)))) (aF dM (aF z8 (aF Er aC))) (eD gp) (Ep x.1 x.2.1) (by kernel_rfl)) fun L x hL _ _=>GP L x.1 x.2.1 hL
end Go.Proofs.YtghpaegglbbocaaGreat
