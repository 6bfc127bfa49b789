import Derived.Test.YtlblcfaclmpekaaGreatCtWa
import Derived.Test.YtlblcfaclmpekaaGreatCV
set_option linter.unusedSimpArgs false
set_option linter.unusedVariables false
namespace Go.Proofs.YtlblcfaclmpekaaGreat
open Go.Sx
set_option maxRecDepth 100000
theorem Lk:
 ∀(nid:Nat),some (V.mp nid)=some (V.mp nid)/\some [aA.mp IntKind.i64 [3,2] [V.fn 245 [],V.fn 246 []]]=some [aA.mp IntKind.i64 [3,2] [V.fn 245 [],V.fn 246 []]]:=by
 exact fun nid=>⟨rfl,rfl⟩
theorem Bl:cV Tryz.prog 243 (zq Xa Xg):=sm (π:= [0]) (by decide) (fun _=>rfl) (bK (inl:=bS) (ann:=aO) an az Lk (by kernel_rfl))
theorem K3 (k:Key) (a:Int) (ha:cg .i64 a):
 true=true/\(decide (ah []=0)=true->void=dc (ay [] k a)/\0=cS (ay [] k a)/\void=dD (ay [] k a)/\0=dZ (ay [] k a)/\0=fo (ay [] k a)/\void=fY (ay [] k
  a)/\0=fV (ay [] k a) a/\1=eh [] k a)/\(decide (ah []=0)=false->((!decide (bg k=0)||aR k&&decide (ah []<=bG k))=true->void=dc (ay [] k a)/\0=cS
  (ay [] k a)/\void=dD (ay [] k a)/\0=dZ (ay [] k a)/\0=fo (ay [] k a)/\void=fY (ay [] k a)/\0=fV (ay [] k a) a/\2=eh [] k a)/\((!decide (bg k=0)||
  aR k&&decide (ah []<=bG k))=false->(decide (a<0)=true->void=dc (ay [] k a)/\0=cS (ay [] k a)/\void=dD (ay [] k a)/\0=dZ (ay [] k a)/\0=fo (ay []
  k a)/\void=fY (ay [] k a)/\0=fV (ay [] k a) a/\4=eh [] k a)/\(decide (a<0)=false->true=true/\(∃g,qP [] k a 0 g/\k=k/\void=void/\void=void/\void=void/\k=k
  /\Value.pointer none=Value.pointer none/\k=g.pos/\a=g.adr/\0=g.rts/\void=g.kpr/\0=g.dep/\0=g.hi/\false=false)/\∀(g:Wk),qP [] k a 0 g->true=true/\((!(decide ((ae []
  g.pos).kind=3)||decide ((ae [] g.pos).kind=2)))=true->((!decide (1=0))=true->void=dc (ay [] k a)/\0=cS (ay [] k a)/\void=dD (ay [] k a)/\0=dZ (ay [] k a)/\
  1=fo (ay [] k a)/\g.kpr=fY (ay [] k a)/\a=fV (ay [] k a) a/\0=eh [] k a)/\((!decide (1=0))=false->ae [] g.pos=dc (ay [] k a)/\g.adr=cS (ay [] k a)/\
  g.kpr=dD (ay [] k a)/\g.dep=dZ (ay [] k a)/\0=fo (ay [] k a)/\void=fY (ay [] k a)/\0=fV (ay [] k a) a/\0=eh [] k a))/\((!(decide ((ae [] g.pos).kind=3)||
  decide ((ae [] g.pos).kind=2)))=false->(decide ((ae [] g.pos).kind=3)=true->true=true/\true=true/\((!decide (g.adr<64))=true->((!decide (2=0))=true->void=dc (ay
  [] k a)/\0=cS (ay [] k a)/\void=dD (ay [] k a)/\0=dZ (ay [] k a)/\2=fo (ay [] k a)/\g.kpr=fY (ay [] k a)/\a=fV (ay [] k a) a/\0=eh [] k a)/\((!decide (2
  =0))=false->ae [] g.pos=dc (ay [] k a)/\g.adr=cS (ay [] k a)/\g.kpr=dD (ay [] k a)/\g.dep=dZ (ay [] k a)/\0=fo (ay [] k a)/\void=fY (ay [] k a)/\0=
  fV (ay [] k a) a/\0=eh [] k a))/\((!decide (g.adr<64))=false->((!decide (aT BinOp.and IntKind.i64 g.rts 3=0))=true->Key.mk (ae [] g.pos).kind (ae [] g.pos).oid (ae []
  g.pos).count (ae [] g.pos).call (aT BinOp.or IntKind.i64 (ae [] g.pos).rights 1) (ae [] g.pos).value=dc (ay [] k a)/\g.adr=cS (ay [] k a)/\g.kpr=dD (ay [] k a)/\
  g.dep=dZ (ay [] k a)/\0=fo (ay [] k a)/\void=fY (ay [] k a)/\0=fV (ay [] k a) a/\0=eh [] k a)/\((!decide (aT BinOp.and IntKind.i64 g.rts 3=0))=false->ae []
  g.pos=dc (ay [] k a)/\g.adr=cS (ay [] k a)/\g.kpr=dD (ay [] k a)/\g.dep=dZ (ay [] k a)/\0=fo (ay [] k a)/\void=fY (ay [] k a)/\0=fV (ay [] k a) a/\0=
  eh [] k a)))/\(decide ((ae [] g.pos).kind=3)=false->(decide ((ae [] g.pos).kind=2)=true->true=true/\true=true/\((!decide (g.dep<8))=true->((!decide (3=0))=true->
  void=dc (ay [] k a)/\0=cS (ay [] k a)/\void=dD (ay [] k a)/\0=dZ (ay [] k a)/\3=fo (ay [] k a)/\g.kpr=fY (ay [] k a)/\a=fV (ay [] k a) a/\0=eh [] k
  a)/\((!decide (3=0))=false->ae [] g.pos=dc (ay [] k a)/\g.adr=cS (ay [] k a)/\g.kpr=dD (ay [] k a)/\g.dep=dZ (ay [] k a)/\0=fo (ay [] k a)/\void=fY
  (ay [] k a)/\0=fV (ay [] k a) a/\0=eh [] k a))/\((!decide (g.dep<8))=false->true=true/\true=true/\((!(decide ((aH [] (Key.mk 2 (ae [] g.pos).oid (ae []
  g.pos).count void.call void.rights void.value) 15).kind=1)&&decide (1<=(aH [] (Key.mk 2 (ae [] g.pos).oid (ae [] g.pos).count void.call void.rights void.value) 15).value)&&decide
  ((aH [] (Key.mk 2 (ae [] g.pos).oid (ae [] g.pos).count void.call void.rights void.value) 15).value<=8)&&(decide (g.dep=0)||decide ((aH [] (Key.mk 2 (ae [] g.pos).oid (ae
  [] g.pos).count void.call void.rights void.value) 15).value<g.hi))))=true->((!decide (4=0))=true->void=dc (ay [] k a)/\0=cS (ay [] k a)/\void=dD (ay [] k a)/\0=dZ
  (ay [] k a)/\4=fo (ay [] k a)/\g.kpr=fY (ay [] k a)/\a=fV (ay [] k a) a/\0=eh [] k a)/\((!decide (4=0))=false->ae [] g.pos=dc (ay [] k a)/\g.adr=cS
  (ay [] k a)/\g.kpr=dD (ay [] k a)/\g.dep=dZ (ay [] k a)/\0=fo (ay [] k a)/\void=fY (ay [] k a)/\0=fV (ay [] k a) a/\0=eh [] k a))/\((!(decide ((aH []
  (Key.mk 2 (ae [] g.pos).oid (ae [] g.pos).count void.call void.rights void.value) 15).kind=1)&&decide (1<=(aH [] (Key.mk 2 (ae [] g.pos).oid (ae [] g.pos).count void.call
  void.rights void.value) 15).value)&&decide ((aH [] (Key.mk 2 (ae [] g.pos).oid (ae [] g.pos).count void.call void.rights void.value) 15).value<=8)&&(decide (g.dep=0)||decide
  ((aH [] (Key.mk 2 (ae [] g.pos).oid (ae [] g.pos).count void.call void.rights void.value) 15).value<g.hi))))=false->true=true/\((decide ((aH [] (Key.mk 2 (ae [] g.pos).oid
  (ae [] g.pos).count void.call void.rights void.value) 14).kind=6)&&decide (aT BinOp.and IntKind.i64 (aT BinOp.or IntKind.i64 g.rts (ae [] g.pos).rights) 4=0))=true->nU
  (aH [] (Key.mk 2 (ae [] g.pos).oid (ae [] g.pos).count void.call void.rights void.value) 15).value/\(FJ (bp (aH [] (Key.mk 2 (ae [] g.pos).oid (ae [] g.pos).count
  void.call void.rights void.value) 15).value)/\aL IntKind.i64 (g.adr.tdiv (bp (aH [] (Key.mk 2 (ae [] g.pos).oid (ae [] g.pos).count void.call void.rights void.value) 15).value)))/\
  true=true/\((!decide (g.adr.tdiv (bp (aH [] (Key.mk 2 (ae [] g.pos).oid (ae [] g.pos).count void.call void.rights void.value) 15).value)<14))=true->((!decide (2=0))=true->
  void=dc (ay [] k a)/\0=cS (ay [] k a)/\void=dD (ay [] k a)/\0=dZ (ay [] k a)/\2=fo (ay [] k a)/\aH [] (Key.mk 2 (ae [] g.pos).oid (ae [] g.pos).count
  void.call void.rights void.value) 14=fY (ay [] k a)/\a=fV (ay [] k a) a/\0=eh [] k a)/\((!decide (2=0))=false->ae [] g.pos=dc (ay [] k a)/\g.adr=cS (ay [] k a)
  /\aH [] (Key.mk 2 (ae [] g.pos).oid (ae [] g.pos).count void.call void.rights void.value) 14=dD (ay [] k a)/\g.dep=dZ (ay [] k a)/\0=fo (ay [] k a)/\void=fY (ay
  [] k a)/\0=fV (ay [] k a) a/\0=eh [] k a))/\((!decide (g.adr.tdiv (bp (aH [] (Key.mk 2 (ae [] g.pos).oid (ae [] g.pos).count void.call void.rights void.value) 15).value)<
  14))=false->aL IntKind.i64 (g.dep+1)/\(FJ (bp (aH [] (Key.mk 2 (ae [] g.pos).oid (ae [] g.pos).count void.call void.rights void.value) 15).value)/\aL IntKind.i64 (g.adr.tmod
  (bp (aH [] (Key.mk 2 (ae [] g.pos).oid (ae [] g.pos).count void.call void.rights void.value) 15).value)))/\∃g',qP [] k a 0 g'/\ub g'<ub g/\k=k/\void=void/\void=void
  /\void=void/\k=k/\Value.pointer none=Value.pointer none/\aH [] (ae [] g.pos) (g.adr.tdiv (bp (aH [] (Key.mk 2 (ae [] g.pos).oid (ae [] g.pos).count void.call
  void.rights void.value) 15).value))=g'.pos/\g.adr.tmod (bp (aH [] (Key.mk 2 (ae [] g.pos).oid (ae [] g.pos).count void.call void.rights void.value) 15).value)=g'.adr/\aT
  BinOp.or IntKind.i64 g.rts (ae [] g.pos).rights=g'.rts/\aH [] (Key.mk 2 (ae [] g.pos).oid (ae [] g.pos).count void.call void.rights void.value) 14=g'.kpr/\g.dep+1=g'.dep/\
  (aH [] (Key.mk 2 (ae [] g.pos).oid (ae [] g.pos).count void.call void.rights void.value) 15).value=g'.hi/\false=false))/\((decide ((aH [] (Key.mk 2 (ae [] g.pos).oid (ae
  [] g.pos).count void.call void.rights void.value) 14).kind=6)&&decide (aT BinOp.and IntKind.i64 (aT BinOp.or IntKind.i64 g.rts (ae [] g.pos).rights) 4=0))=false->nU (aH []
  (Key.mk 2 (ae [] g.pos).oid (ae [] g.pos).count void.call void.rights void.value) 15).value/\(FJ (bp (aH [] (Key.mk 2 (ae [] g.pos).oid (ae [] g.pos).count void.call
  void.rights void.value) 15).value)/\aL IntKind.i64 (g.adr.tdiv (bp (aH [] (Key.mk 2 (ae [] g.pos).oid (ae [] g.pos).count void.call void.rights void.value) 15).value)))/\true=true
  /\((!decide (g.adr.tdiv (bp (aH [] (Key.mk 2 (ae [] g.pos).oid (ae [] g.pos).count void.call void.rights void.value) 15).value)<14))=true->((!decide (2=0))=true->void=dc
  (ay [] k a)/\0=cS (ay [] k a)/\void=dD (ay [] k a)/\0=dZ (ay [] k a)/\2=fo (ay [] k a)/\g.kpr=fY (ay [] k a)/\a=fV (ay [] k a) a/\0=eh [] k a)/\
  ((!decide (2=0))=false->ae [] g.pos=dc (ay [] k a)/\g.adr=cS (ay [] k a)/\g.kpr=dD (ay [] k a)/\g.dep=dZ (ay [] k a)/\0=fo (ay [] k a)/\void=fY (ay []
  k a)/\0=fV (ay [] k a) a/\0=eh [] k a))/\((!decide (g.adr.tdiv (bp (aH [] (Key.mk 2 (ae [] g.pos).oid (ae [] g.pos).count void.call void.rights void.value) 15).value)<
  14))=false->aL IntKind.i64 (g.dep+1)/\(FJ (bp (aH [] (Key.mk 2 (ae [] g.pos).oid (ae [] g.pos).count void.call void.rights void.value) 15).value)/\aL IntKind.i64 (g.adr.tmod
  (bp (aH [] (Key.mk 2 (ae [] g.pos).oid (ae [] g.pos).count void.call void.rights void.value) 15).value)))/\∃g',qP [] k a 0 g'/\ub g'<ub g/\k=k/\void=void/\void=void
  /\void=void/\k=k/\Value.pointer none=Value.pointer none/\aH [] (ae [] g.pos) (g.adr.tdiv (bp (aH [] (Key.mk 2 (ae [] g.pos).oid (ae [] g.pos).count void.call
  void.rights void.value) 15).value))=g'.pos/\g.adr.tmod (bp (aH [] (Key.mk 2 (ae [] g.pos).oid (ae [] g.pos).count void.call void.rights void.value) 15).value)=g'.adr/\aT
  BinOp.or IntKind.i64 g.rts (ae [] g.pos).rights=g'.rts/\g.kpr=g'.kpr/\g.dep+1=g'.dep/\(aH [] (Key.mk 2 (ae [] g.pos).oid (ae [] g.pos).count void.call void.rights void.value)
  15).value=g'.hi/\false=false)))))/\(decide ((ae [] g.pos).kind=2)=false->False)))))):=by
 refine⟨rfl,fun h=>ED (Vm h) (by omega),fun h=>absurd h (by decide)⟩
theorem Ih (k:Key) (a:Int) (ha:cg .i64 a):aj Tryz.prog 236 [gJ,.key k,.it .i64 a] [] (oR (LF [] k a)) (fun _ _=>False):=
 aK (inl:=(fun f=>f==235||f==241||f==244||f==245||f==246||f==247)) (ann:=(kg [(241,2,We [0,2] (fun _=> []) 0 (fun g=> .blk tW (WX (gJ) g)) (qP [] k a 0) ub)])) (ab Bl (ab aY (ab fj (ab cF (ab fQ (ab EF (ab qx an))))))) az (cW Fz) (K3 k a ha) (by kernel_rfl)
theorem Pp (L:List Sx.Obj) (k:Key) (a:Int) (ha:cg .i64 a):
 true=true/\(decide (ah L=0)=true->void=dc (ay L k a)/\0=cS (ay L k a)/\void=dD (ay L k a)/\0=dZ (ay L k a)/\0=fo (ay L k a)/\void=fY (ay L k a)/\0
  =fV (ay L k a) a/\1=eh L k a)/\(decide (ah L=0)=false->((!decide (bg k=0)||aR k&&decide (ah L<=bG k))=true->void=dc (ay L k a)/\0=cS (ay L k a)
  /\void=dD (ay L k a)/\0=dZ (ay L k a)/\0=fo (ay L k a)/\void=fY (ay L k a)/\0=fV (ay L k a) a/\2=eh L k a)/\((!decide (bg k=0)||aR k&&decide
  (ah L<=bG k))=false->(decide (a<0)=true->void=dc (ay L k a)/\0=cS (ay L k a)/\void=dD (ay L k a)/\0=dZ (ay L k a)/\0=fo (ay L k a)/\void=fY (ay
  L k a)/\0=fV (ay L k a) a/\4=eh L k a)/\(decide (a<0)=false->true=true/\(∃g,qP L k a 0 g/\L=L/\k=k/\void=void/\void=void/\void=void/\k=k/\k=g.pos/\a=
  g.adr/\0=g.rts/\void=g.kpr/\0=g.dep/\0=g.hi/\false=false)/\∀(g:Wk),qP L k a 0 g->true=true/\((!(decide ((ae L g.pos).kind=3)||decide ((ae L g.pos).kind=2)))=
  true->((!decide (1=0))=true->void=dc (ay L k a)/\0=cS (ay L k a)/\void=dD (ay L k a)/\0=dZ (ay L k a)/\1=fo (ay L k a)/\g.kpr=fY (ay L k a)/\a=fV
  (ay L k a) a/\0=eh L k a)/\((!decide (1=0))=false->ae L g.pos=dc (ay L k a)/\g.adr=cS (ay L k a)/\g.kpr=dD (ay L k a)/\g.dep=dZ (ay L k a)/\0=fo (ay L
  k a)/\void=fY (ay L k a)/\0=fV (ay L k a) a/\0=eh L k a))/\((!(decide ((ae L g.pos).kind=3)||decide ((ae L g.pos).kind=2)))=false->(decide ((ae L g.pos).kind=
  3)=true->true=true/\true=true/\((!decide (g.adr<64))=true->((!decide (2=0))=true->void=dc (ay L k a)/\0=cS (ay L k a)/\void=dD (ay L k a)/\0=dZ (ay L k a)
  /\2=fo (ay L k a)/\g.kpr=fY (ay L k a)/\a=fV (ay L k a) a/\0=eh L k a)/\((!decide (2=0))=false->ae L g.pos=dc (ay L k a)/\g.adr=cS (ay L k a)/\g.kpr=
  dD (ay L k a)/\g.dep=dZ (ay L k a)/\0=fo (ay L k a)/\void=fY (ay L k a)/\0=fV (ay L k a) a/\0=eh L k a))/\((!decide (g.adr<64))=false->((!decide (aT
  BinOp.and IntKind.i64 g.rts 3=0))=true->Key.mk (ae L g.pos).kind (ae L g.pos).oid (ae L g.pos).count (ae L g.pos).call (aT BinOp.or IntKind.i64 (ae L g.pos).rights 1)
  (ae L g.pos).value=dc (ay L k a)/\g.adr=cS (ay L k a)/\g.kpr=dD (ay L k a)/\g.dep=dZ (ay L k a)/\0=fo (ay L k a)/\void=fY (ay L k a)/\0=fV (ay L k a)
  a/\0=eh L k a)/\((!decide (aT BinOp.and IntKind.i64 g.rts 3=0))=false->ae L g.pos=dc (ay L k a)/\g.adr=cS (ay L k a)/\g.kpr=dD (ay L k a)/\g.dep=dZ (ay L k
  a)/\0=fo (ay L k a)/\void=fY (ay L k a)/\0=fV (ay L k a) a/\0=eh L k a)))/\(decide ((ae L g.pos).kind=3)=false->(decide ((ae L g.pos).kind=2)=true->true=
  true/\true=true/\((!decide (g.dep<8))=true->((!decide (3=0))=true->void=dc (ay L k a)/\0=cS (ay L k a)/\void=dD (ay L k a)/\0=dZ (ay L k a)/\3=fo (ay L k
  a)/\g.kpr=fY (ay L k a)/\a=fV (ay L k a) a/\0=eh L k a)/\((!decide (3=0))=false->ae L g.pos=dc (ay L k a)/\g.adr=cS (ay L k a)/\g.kpr=dD (ay L k a)/\
  g.dep=dZ (ay L k a)/\0=fo (ay L k a)/\void=fY (ay L k a)/\0=fV (ay L k a) a/\0=eh L k a))/\((!decide (g.dep<8))=false->true=true/\true=true/\((!(decide
  ((aH L (Key.mk 2 (ae L g.pos).oid (ae L g.pos).count void.call void.rights void.value) 15).kind=1)&&decide (1<=(aH L (Key.mk 2 (ae L g.pos).oid (ae L g.pos).count void.call
  void.rights void.value) 15).value)&&decide ((aH L (Key.mk 2 (ae L g.pos).oid (ae L g.pos).count void.call void.rights void.value) 15).value<=8)&&(decide (g.dep=0)||decide ((aH
  L (Key.mk 2 (ae L g.pos).oid (ae L g.pos).count void.call void.rights void.value) 15).value<g.hi))))=true->((!decide (4=0))=true->void=dc (ay L k a)/\0=cS (ay L k a)/\
  void=dD (ay L k a)/\0=dZ (ay L k a)/\4=fo (ay L k a)/\g.kpr=fY (ay L k a)/\a=fV (ay L k a) a/\0=eh L k a)/\((!decide (4=0))=false->ae L g.pos=dc
  (ay L k a)/\g.adr=cS (ay L k a)/\g.kpr=dD (ay L k a)/\g.dep=dZ (ay L k a)/\0=fo (ay L k a)/\void=fY (ay L k a)/\0=fV (ay L k a) a/\0=eh L k a))/\
  ((!(decide ((aH L (Key.mk 2 (ae L g.pos).oid (ae L g.pos).count void.call void.rights void.value) 15).kind=1)&&decide (1<=(aH L (Key.mk 2 (ae L g.pos).oid (ae L
  g.pos).count void.call void.rights void.value) 15).value)&&decide ((aH L (Key.mk 2 (ae L g.pos).oid (ae L g.pos).count void.call void.rights void.value) 15).value<=8)&&(decide (g.dep=
  0)||decide ((aH L (Key.mk 2 (ae L g.pos).oid (ae L g.pos).count void.call void.rights void.value) 15).value<g.hi))))=false->true=true/\((decide ((aH L (Key.mk 2 (ae L
  g.pos).oid (ae L g.pos).count void.call void.rights void.value) 14).kind=6)&&decide (aT BinOp.and IntKind.i64 (aT BinOp.or IntKind.i64 g.rts (ae L g.pos).rights) 4=0))=true->
  nU (aH L (Key.mk 2 (ae L g.pos).oid (ae L g.pos).count void.call void.rights void.value) 15).value/\(FJ (bp (aH L (Key.mk 2 (ae L g.pos).oid (ae L g.pos).count
  void.call void.rights void.value) 15).value)/\aL IntKind.i64 (g.adr.tdiv (bp (aH L (Key.mk 2 (ae L g.pos).oid (ae L g.pos).count void.call void.rights void.value) 15).value)))/\true
  =true/\((!decide (g.adr.tdiv (bp (aH L (Key.mk 2 (ae L g.pos).oid (ae L g.pos).count void.call void.rights void.value) 15).value)<14))=true->((!decide (2=0))=true->void=
  dc (ay L k a)/\0=cS (ay L k a)/\void=dD (ay L k a)/\0=dZ (ay L k a)/\2=fo (ay L k a)/\aH L (Key.mk 2 (ae L g.pos).oid (ae L g.pos).count void.call
  void.rights void.value) 14=fY (ay L k a)/\a=fV (ay L k a) a/\0=eh L k a)/\((!decide (2=0))=false->ae L g.pos=dc (ay L k a)/\g.adr=cS (ay L k a)/\aH L
  (Key.mk 2 (ae L g.pos).oid (ae L g.pos).count void.call void.rights void.value) 14=dD (ay L k a)/\g.dep=dZ (ay L k a)/\0=fo (ay L k a)/\void=fY (ay L k a)/\0=fV
  (ay L k a) a/\0=eh L k a))/\((!decide (g.adr.tdiv (bp (aH L (Key.mk 2 (ae L g.pos).oid (ae L g.pos).count void.call void.rights void.value) 15).value)<14))=false->aL
  IntKind.i64 (g.dep+1)/\(FJ (bp (aH L (Key.mk 2 (ae L g.pos).oid (ae L g.pos).count void.call void.rights void.value) 15).value)/\aL IntKind.i64 (g.adr.tmod (bp (aH L
  (Key.mk 2 (ae L g.pos).oid (ae L g.pos).count void.call void.rights void.value) 15).value)))/\∃g',qP L k a 0 g'/\ub g'<ub g/\L=L/\k=k/\void=void/\void=void/\void=void
  /\k=k/\aH L (ae L g.pos) (g.adr.tdiv (bp (aH L (Key.mk 2 (ae L g.pos).oid (ae L g.pos).count void.call void.rights void.value) 15).value))=g'.pos/\g.adr.tmod (bp
  (aH L (Key.mk 2 (ae L g.pos).oid (ae L g.pos).count void.call void.rights void.value) 15).value)=g'.adr/\aT BinOp.or IntKind.i64 g.rts (ae L g.pos).rights=g'.rts/\aH L
  (Key.mk 2 (ae L g.pos).oid (ae L g.pos).count void.call void.rights void.value) 14=g'.kpr/\g.dep+1=g'.dep/\(aH L (Key.mk 2 (ae L g.pos).oid (ae L g.pos).count void.call
  void.rights void.value) 15).value=g'.hi/\false=false))/\((decide ((aH L (Key.mk 2 (ae L g.pos).oid (ae L g.pos).count void.call void.rights void.value) 14).kind=6)&&decide (aT
  BinOp.and IntKind.i64 (aT BinOp.or IntKind.i64 g.rts (ae L g.pos).rights) 4=0))=false->nU (aH L (Key.mk 2 (ae L g.pos).oid (ae L g.pos).count void.call void.rights
  void.value) 15).value/\(FJ (bp (aH L (Key.mk 2 (ae L g.pos).oid (ae L g.pos).count void.call void.rights void.value) 15).value)/\aL IntKind.i64 (g.adr.tdiv (bp (aH L
  (Key.mk 2 (ae L g.pos).oid (ae L g.pos).count void.call void.rights void.value) 15).value)))/\true=true/\((!decide (g.adr.tdiv (bp (aH L (Key.mk 2 (ae L g.pos).oid (ae L
  g.pos).count void.call void.rights void.value) 15).value)<14))=true->((!decide (2=0))=true->void=dc (ay L k a)/\0=cS (ay L k a)/\void=dD (ay L k a)/\0=dZ (ay L k a)
  /\2=fo (ay L k a)/\g.kpr=fY (ay L k a)/\a=fV (ay L k a) a/\0=eh L k a)/\((!decide (2=0))=false->ae L g.pos=dc (ay L k a)/\g.adr=cS (ay L k a)/\g.kpr=
  dD (ay L k a)/\g.dep=dZ (ay L k a)/\0=fo (ay L k a)/\void=fY (ay L k a)/\0=fV (ay L k a) a/\0=eh L k a))/\((!decide (g.adr.tdiv (bp (aH L (Key.mk 2 (ae
  L g.pos).oid (ae L g.pos).count void.call void.rights void.value) 15).value)<14))=false->aL IntKind.i64 (g.dep+1)/\(FJ (bp (aH L (Key.mk 2 (ae L g.pos).oid (ae L
  g.pos).count void.call void.rights void.value) 15).value)/\aL IntKind.i64 (g.adr.tmod (bp (aH L (Key.mk 2 (ae L g.pos).oid (ae L g.pos).count void.call void.rights void.value)
  15).value)))/\∃g',qP L k a 0 g'/\ub g'<ub g/\L=L/\k=k/\void=void/\void=void/\void=void/\k=k/\aH L (ae L g.pos) (g.adr.tdiv (bp (aH L (Key.mk 2 (ae L
  g.pos).oid (ae L g.pos).count void.call void.rights void.value) 15).value))=g'.pos/\g.adr.tmod (bp (aH L (Key.mk 2 (ae L g.pos).oid (ae L g.pos).count void.call void.rights
  void.value) 15).value)=g'.adr/\aT BinOp.or IntKind.i64 g.rts (ae L g.pos).rights=g'.rts/\g.kpr=g'.kpr/\g.dep+1=g'.dep/\(aH L (Key.mk 2 (ae L g.pos).oid (ae L
  g.pos).count void.call void.rights void.value) 15).value=g'.hi/\false=false)))))/\(decide ((ae L g.pos).kind=2)=false->False)))))):=by
 refine⟨rfl,fun h=>ED (Vm h) (by omega),fun h=>⟨fun h2=>?_,fun h2=>⟨fun h3=>?_,fun h3=>⟨rfl,?_,fun g hI=>⟨rfl,?_⟩⟩⟩⟩⟩
 ·rw[zb,Bool.not_eq_true']at h2;exact ED (by rw[To h,h2];rfl) (by omega)
 ·rw[zb,Bool.not_eq_false']at h2;exact ED (by rw[To h,h2,Xv rfl,Xv (Xs h3)]) (by omega)
 ·refine⟨xK k a 0,VR (Xr h3) 0,?_⟩;repeat' apply And.intro
  all_goals rfl
 rw[zb,Bool.not_eq_false']at h2;have hE:eh L k a=0:=by rw[To h,h2,Xv rfl,Xu (Xr h3)]
 clear h h2 h3;obtain⟨⟨a1,a2⟩,⟨r1,r2⟩,⟨d1,d2⟩,e1,e2,e3⟩:=id hI;refine⟨fun v=>⟨fun _=>?_,fun h=>absurd h (by decide)⟩,fun v=>⟨fun v3=>⟨rfl,rfl,fun b=>⟨fun _=>?_,fun h=>absurd h (by decide)⟩,fun b=>⟨fun ro=>?_,fun ro=>?_⟩⟩,fun v3=>⟨fun v2=>?_,fun v2=>?_⟩⟩⟩
 ·simp only[Bool.not_eq_true',Bool.or_eq_false_iff,decide_eq_false_iff_not]at v;exact yP hI hE (Nt d1 d2 v.1 v.2) (by omega)
 ·have v3:=Xs v3;exact yP hI hE (SV d1 d2 v3 (by simpa using b)) (by omega)
 ·have v3:=Xs v3;have hb:g.adr<64:=by simpa using b
  have hp:=gL (oi L g.pos);have hm:ec (ae L g.pos).kind=1:=by rw[v3];rfl
  rw[PO r1 r2]at ro;have ro:g.rts.tmod 4≠0:=by simpa using ro
  refine Qc hI hE ((FL d1 d2 v3 hb).trans ?_);rw[A5 hp.1 (by omega)]
  unfold o0;rw[Xu ro];rfl
 ·have v3:=Xs v3;have hb:g.adr<64:=by simpa using b
  rw[PO r1 r2]at ro;have ro:g.rts.tmod 4=0:=by simpa using ro
  refine Qc hI hE ((FL d1 d2 v3 hb).trans ?_);unfold o0;rw[Xv ro]
 ·have v3:=Xr v3;have v2:=Xs v2;obtain⟨pe,pi⟩:=Er (.inl v2);have pi':aI L (ae L g.pos)=true:=by rw[pe];exact pi
  have hp:=pt (oi L g.pos);have ho:=U1 r1 r2 hp.1 hp.2;rw[Jy (i:=15) pi' v2 (by omega) (by omega),Jy (i:=14) pi' v2 (by omega) (by omega),ho.1,VI ho.2.1 ho.2.2]
  refine⟨rfl,rfl,fun b=>⟨fun _=>?_,fun h=>absurd h (by decide)⟩,fun b=>⟨rfl,rfl,fun f=>⟨fun _=>?_,fun h=>absurd h (by decide)⟩,fun f=>⟨rfl,?_⟩⟩⟩
  ·exact yP hI hE (R8 d1 d2 v2 (by simpa using b)) (by omega)
  ·have b:g.dep<8:=by simpa using b
   exact yP hI hE (Pk d1 d2 v2 b (by unfold py;rw[Bool.not_eq_true']at f;exact f)) (by omega)
  ·have b:g.dep<8:=by simpa using b
   have f:py g (ef L (cC (ae L g.pos) 0) 15)=true:=by unfold py;rw[Bool.not_eq_false']at f;exact f
   have hf':=AD.1 f;have he:=vv (show(ef L (cC (ae L g.pos) 0) 15).value<=9 by omega)
   have hd:=uf a1 he.1;have q1:nU (ef L (cC (ae L g.pos) 0) 15).value:=⟨by omega,by omega⟩
   have q2:FJ (bp (ef L (cC (ae L g.pos) 0) 15).value):=by unfold FJ;omega
   unfold cg at ha;have q3:aL IntKind.i64 (g.adr.tdiv (bp (ef L (cC (ae L g.pos) 0) 15).value)):=by simp only[aL,cg];omega
   have q4:aL IntKind.i64 (g.adr.tmod (bp (ef L (cC (ae L g.pos) 0) 15).value)):=by simp only[aL,cg];omega
   have q5:aL IntKind.i64 (g.dep+1):=by simp only[aL,cg];omega
   have kp:∀b,(decide ((ef L (cC (ae L g.pos) 0) 14).kind=6)&&decide (r8 g.rts (ae L g.pos).rights<4))=b->Cy (r8 g.rts (ae L g.pos).rights) (ef L (cC (ae L g.pos) 0) 14) g.kpr=if b then ef L (cC (ae L g.pos) 0) 14 else g.kpr:=by
    intro b hb;unfold Cy;cases b
    ·simp only[Bool.and_eq_false_iff,decide_eq_false_iff_not]at hb;rw[Xu (by omega)];rfl
    ·simp only[Xo,Xp]at hb;rw[Xv hb];rfl
   refine⟨fun c=>⟨q1,⟨q2,q3⟩,rfl,fun s=>⟨fun _=>?_,fun h=>absurd h (by decide)⟩,fun s=>⟨q5,⟨q2,q4⟩,MF L g,?_⟩⟩,fun c=>⟨q1,⟨q2,q3⟩,rfl,fun s=>⟨fun _=>?_,fun h=>absurd h (by decide)⟩,fun s=>⟨q5,⟨q2,q4⟩,MF L g,?_⟩⟩⟩
   ·exact yP hI hE ((E2 d1 d2 v2 b f (by simpa using s)).trans (by rw[kp _ c];rfl)) (by omega)
   ·have s:g.adr.tdiv (bp (ef L (cC (ae L g.pos) 0) 15).value)<14:=by simpa using s
    obtain⟨n1,n2⟩:=Qj hI v2 b f s;rw[Db pi' v2 hd.1 (by omega)]
    refine⟨n1,n2,rfl,rfl,rfl,rfl,rfl,rfl,rfl,rfl,rfl,?_,rfl,rfl,rfl⟩;show _=Cy _ _ _
    rw[kp _ c];rfl
   ·exact yP hI hE ((E2 d1 d2 v2 b f (by simpa using s)).trans (by rw[kp _ c];rfl)) (by omega)
   ·have s:g.adr.tdiv (bp (ef L (cC (ae L g.pos) 0) 15).value)<14:=by simpa using s
    obtain⟨n1,n2⟩:=Qj hI v2 b f s;rw[Db pi' v2 hd.1 (by omega)]
    refine⟨n1,n2,rfl,rfl,rfl,rfl,rfl,rfl,rfl,rfl,rfl,?_,rfl,rfl,rfl⟩;show _=Cy _ _ _
    rw[kp _ c];rfl
 ·simp only[Bool.not_eq_false',Bool.or_eq_true,Xp]at v;have v3:=Xr v3;have v2:=Xr v2;omega
theorem O9 (L:List Sx.Obj) (k:Key) (a:Int) (ha:cg .i64 a):aj Tryz.prog 236 [.lp 0 0,.key k,.it .i64 a] [.ro (.store tS eS L)] (oR (LF L k a)) (fun _ _=>False):=
 aK (inl:=(fun f=>f==235||f==241||f==244||f==245||f==246||f==247)) (ann:=(kg [(241,2,We [0,2] (fun _=> []) 0 (fun g=> .blk tW (WX (.lp 0 0) g)) (qP L k a 0) ub)])) (ab Bl (ab aY (ab fj (ab cF (ab fQ (ab EF (ab qx an))))))) az (cW Fz) (Pp L k a ha) (by kernel_rfl)
theorem Fx:cV Tryz.prog 236 RY:=
 jT (aM qQ (aM mL (aM fP dM))) (fun _=>rfl) fun a hq hok=>by
  obtain⟨S,k,i,_⟩:=a;cases S with
  |none=>exact Ih k i hok.2.2.1
  |some L=>exact O9 L k i hok.2.2.1
end Go.Proofs.YtlblcfaclmpekaaGreat
