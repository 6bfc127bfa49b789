import Derived.Test.YtghpaegglbbocaaGreatCtWa
import Derived.Test.YtghpaegglbbocaaGreatCV
set_option linter.unusedSimpArgs false
set_option linter.unusedVariables false
namespace Go.Proofs.YtghpaegglbbocaaGreat
open Go.Sx
set_option maxRecDepth 100000
theorem FO:
 ∀(nid:Nat),some (V.mp nid)=some (V.mp nid)/\some [aw.mp IntKind.i64 [3,2] [V.fn 206 [],V.fn 207 []]]=some [aw.mp IntKind.i64 [3,2] [V.fn 206 [],V.fn 207 []]]:=by
 exact fun nid=>⟨rfl,rfl⟩
theorem z7:cW Tryz.prog 204 (A9 S5 S8):=u9 (π:= [0]) (by decide) (fun _=>rfl) (cg (inl:=bM) (ann:=aL) ak aA FO (by kernel_rfl))
theorem HE (k:Key) (a:Int) (ha:cy .i64 a):
 true=true/\(decide (ah []=0)=true->void=cP (ar [] k a)/\0=cH (ar [] k a)/\void=di (ar [] k a)/\0=dM (ar [] k a)/\0=eX (ar [] k a)/\void=fD (ar [] k
  a)/\0=fE (ar [] k a) a/\1=dU [] k a)/\(decide (ah []=0)=false->((!decide (bf k=0)||aU k&&decide (ah []<=bW k))=true->void=cP (ar [] k a)/\0=cH
  (ar [] k a)/\void=di (ar [] k a)/\0=dM (ar [] k a)/\0=eX (ar [] k a)/\void=fD (ar [] k a)/\0=fE (ar [] k a) a/\2=dU [] k a)/\((!decide (bf k=0)||
  aU k&&decide (ah []<=bW k))=false->(decide (a<0)=true->void=cP (ar [] k a)/\0=cH (ar [] k a)/\void=di (ar [] k a)/\0=dM (ar [] k a)/\0=eX (ar []
  k a)/\void=fD (ar [] k a)/\0=fE (ar [] k a) a/\4=dU [] k a)/\(decide (a<0)=false->true=true/\(∃g,pw [] k a 0 g/\k=k/\void=void/\void=void/\void=void/\k=k
  /\Value.pointer none=Value.pointer none/\k=g.pos/\a=g.adr/\0=g.rts/\void=g.kpr/\0=g.dep/\0=g.hi/\false=false)/\∀(g:Wk),pw [] k a 0 g->true=true/\((!(decide ((ae []
  g.pos).kind=3)||decide ((ae [] g.pos).kind=2)))=true->((!decide (1=0))=true->void=cP (ar [] k a)/\0=cH (ar [] k a)/\void=di (ar [] k a)/\0=dM (ar [] k a)/\
  1=eX (ar [] k a)/\g.kpr=fD (ar [] k a)/\a=fE (ar [] k a) a/\0=dU [] k a)/\((!decide (1=0))=false->ae [] g.pos=cP (ar [] k a)/\g.adr=cH (ar [] k a)/\
  g.kpr=di (ar [] k a)/\g.dep=dM (ar [] k a)/\0=eX (ar [] k a)/\void=fD (ar [] k a)/\0=fE (ar [] k a) a/\0=dU [] k a))/\((!(decide ((ae [] g.pos).kind=3)||
  decide ((ae [] g.pos).kind=2)))=false->(decide ((ae [] g.pos).kind=3)=true->true=true/\true=true/\((!decide (g.adr<64))=true->((!decide (2=0))=true->void=cP (ar
  [] k a)/\0=cH (ar [] k a)/\void=di (ar [] k a)/\0=dM (ar [] k a)/\2=eX (ar [] k a)/\g.kpr=fD (ar [] k a)/\a=fE (ar [] k a) a/\0=dU [] k a)/\((!decide (2
  =0))=false->ae [] g.pos=cP (ar [] k a)/\g.adr=cH (ar [] k a)/\g.kpr=di (ar [] k a)/\g.dep=dM (ar [] k a)/\0=eX (ar [] k a)/\void=fD (ar [] k a)/\0=
  fE (ar [] k a) a/\0=dU [] k a))/\((!decide (g.adr<64))=false->((!decide (aO BinOp.and IntKind.i64 g.rts 3=0))=true->Key.mk (ae [] g.pos).kind (ae [] g.pos).oid (ae []
  g.pos).count (ae [] g.pos).call (aO BinOp.or IntKind.i64 (ae [] g.pos).rights 1) (ae [] g.pos).value=cP (ar [] k a)/\g.adr=cH (ar [] k a)/\g.kpr=di (ar [] k a)/\
  g.dep=dM (ar [] k a)/\0=eX (ar [] k a)/\void=fD (ar [] k a)/\0=fE (ar [] k a) a/\0=dU [] k a)/\((!decide (aO BinOp.and IntKind.i64 g.rts 3=0))=false->ae []
  g.pos=cP (ar [] k a)/\g.adr=cH (ar [] k a)/\g.kpr=di (ar [] k a)/\g.dep=dM (ar [] k a)/\0=eX (ar [] k a)/\void=fD (ar [] k a)/\0=fE (ar [] k a) a/\0=
  dU [] k a)))/\(decide ((ae [] g.pos).kind=3)=false->(decide ((ae [] g.pos).kind=2)=true->true=true/\true=true/\((!decide (g.dep<8))=true->((!decide (3=0))=true->
  void=cP (ar [] k a)/\0=cH (ar [] k a)/\void=di (ar [] k a)/\0=dM (ar [] k a)/\3=eX (ar [] k a)/\g.kpr=fD (ar [] k a)/\a=fE (ar [] k a) a/\0=dU [] k
  a)/\((!decide (3=0))=false->ae [] g.pos=cP (ar [] k a)/\g.adr=cH (ar [] k a)/\g.kpr=di (ar [] k a)/\g.dep=dM (ar [] k a)/\0=eX (ar [] k a)/\void=fD
  (ar [] k a)/\0=fE (ar [] k a) a/\0=dU [] k a))/\((!decide (g.dep<8))=false->true=true/\true=true/\((!(decide ((aC [] (Key.mk 2 (ae [] g.pos).oid (ae []
  g.pos).count void.call void.rights void.value) 15).kind=1)&&decide (1<=(aC [] (Key.mk 2 (ae [] g.pos).oid (ae [] g.pos).count void.call void.rights void.value) 15).value)&&decide
  ((aC [] (Key.mk 2 (ae [] g.pos).oid (ae [] g.pos).count void.call void.rights void.value) 15).value<=8)&&(decide (g.dep=0)||decide ((aC [] (Key.mk 2 (ae [] g.pos).oid (ae
  [] g.pos).count void.call void.rights void.value) 15).value<g.hi))))=true->((!decide (4=0))=true->void=cP (ar [] k a)/\0=cH (ar [] k a)/\void=di (ar [] k a)/\0=dM
  (ar [] k a)/\4=eX (ar [] k a)/\g.kpr=fD (ar [] k a)/\a=fE (ar [] k a) a/\0=dU [] k a)/\((!decide (4=0))=false->ae [] g.pos=cP (ar [] k a)/\g.adr=cH
  (ar [] k a)/\g.kpr=di (ar [] k a)/\g.dep=dM (ar [] k a)/\0=eX (ar [] k a)/\void=fD (ar [] k a)/\0=fE (ar [] k a) a/\0=dU [] k a))/\((!(decide ((aC []
  (Key.mk 2 (ae [] g.pos).oid (ae [] g.pos).count void.call void.rights void.value) 15).kind=1)&&decide (1<=(aC [] (Key.mk 2 (ae [] g.pos).oid (ae [] g.pos).count void.call
  void.rights void.value) 15).value)&&decide ((aC [] (Key.mk 2 (ae [] g.pos).oid (ae [] g.pos).count void.call void.rights void.value) 15).value<=8)&&(decide (g.dep=0)||decide
  ((aC [] (Key.mk 2 (ae [] g.pos).oid (ae [] g.pos).count void.call void.rights void.value) 15).value<g.hi))))=false->true=true/\((decide ((aC [] (Key.mk 2 (ae [] g.pos).oid
  (ae [] g.pos).count void.call void.rights void.value) 14).kind=6)&&decide (aO BinOp.and IntKind.i64 (aO BinOp.or IntKind.i64 g.rts (ae [] g.pos).rights) 4=0))=true->m7
  (aC [] (Key.mk 2 (ae [] g.pos).oid (ae [] g.pos).count void.call void.rights void.value) 15).value/\(wY (bj (aC [] (Key.mk 2 (ae [] g.pos).oid (ae [] g.pos).count
  void.call void.rights void.value) 15).value)/\aQ IntKind.i64 (g.adr.tdiv (bj (aC [] (Key.mk 2 (ae [] g.pos).oid (ae [] g.pos).count void.call void.rights void.value) 15).value)))/\
  true=true/\((!decide (g.adr.tdiv (bj (aC [] (Key.mk 2 (ae [] g.pos).oid (ae [] g.pos).count void.call void.rights void.value) 15).value)<14))=true->((!decide (2=0))=true->
  void=cP (ar [] k a)/\0=cH (ar [] k a)/\void=di (ar [] k a)/\0=dM (ar [] k a)/\2=eX (ar [] k a)/\aC [] (Key.mk 2 (ae [] g.pos).oid (ae [] g.pos).count
  void.call void.rights void.value) 14=fD (ar [] k a)/\a=fE (ar [] k a) a/\0=dU [] k a)/\((!decide (2=0))=false->ae [] g.pos=cP (ar [] k a)/\g.adr=cH (ar [] k a)
  /\aC [] (Key.mk 2 (ae [] g.pos).oid (ae [] g.pos).count void.call void.rights void.value) 14=di (ar [] k a)/\g.dep=dM (ar [] k a)/\0=eX (ar [] k a)/\void=fD (ar
  [] k a)/\0=fE (ar [] k a) a/\0=dU [] k a))/\((!decide (g.adr.tdiv (bj (aC [] (Key.mk 2 (ae [] g.pos).oid (ae [] g.pos).count void.call void.rights void.value) 15).value)<
  14))=false->aQ IntKind.i64 (g.dep+1)/\(wY (bj (aC [] (Key.mk 2 (ae [] g.pos).oid (ae [] g.pos).count void.call void.rights void.value) 15).value)/\aQ IntKind.i64 (g.adr.tmod
  (bj (aC [] (Key.mk 2 (ae [] g.pos).oid (ae [] g.pos).count void.call void.rights void.value) 15).value)))/\∃g',pw [] k a 0 g'/\sD g'<sD g/\k=k/\void=void/\void=void
  /\void=void/\k=k/\Value.pointer none=Value.pointer none/\aC [] (ae [] g.pos) (g.adr.tdiv (bj (aC [] (Key.mk 2 (ae [] g.pos).oid (ae [] g.pos).count void.call
  void.rights void.value) 15).value))=g'.pos/\g.adr.tmod (bj (aC [] (Key.mk 2 (ae [] g.pos).oid (ae [] g.pos).count void.call void.rights void.value) 15).value)=g'.adr/\aO
  BinOp.or IntKind.i64 g.rts (ae [] g.pos).rights=g'.rts/\aC [] (Key.mk 2 (ae [] g.pos).oid (ae [] g.pos).count void.call void.rights void.value) 14=g'.kpr/\g.dep+1=g'.dep/\
  (aC [] (Key.mk 2 (ae [] g.pos).oid (ae [] g.pos).count void.call void.rights void.value) 15).value=g'.hi/\false=false))/\((decide ((aC [] (Key.mk 2 (ae [] g.pos).oid (ae
  [] g.pos).count void.call void.rights void.value) 14).kind=6)&&decide (aO BinOp.and IntKind.i64 (aO BinOp.or IntKind.i64 g.rts (ae [] g.pos).rights) 4=0))=false->m7 (aC []
  (Key.mk 2 (ae [] g.pos).oid (ae [] g.pos).count void.call void.rights void.value) 15).value/\(wY (bj (aC [] (Key.mk 2 (ae [] g.pos).oid (ae [] g.pos).count void.call
  void.rights void.value) 15).value)/\aQ IntKind.i64 (g.adr.tdiv (bj (aC [] (Key.mk 2 (ae [] g.pos).oid (ae [] g.pos).count void.call void.rights void.value) 15).value)))/\true=true
  /\((!decide (g.adr.tdiv (bj (aC [] (Key.mk 2 (ae [] g.pos).oid (ae [] g.pos).count void.call void.rights void.value) 15).value)<14))=true->((!decide (2=0))=true->void=cP
  (ar [] k a)/\0=cH (ar [] k a)/\void=di (ar [] k a)/\0=dM (ar [] k a)/\2=eX (ar [] k a)/\g.kpr=fD (ar [] k a)/\a=fE (ar [] k a) a/\0=dU [] k a)/\
  ((!decide (2=0))=false->ae [] g.pos=cP (ar [] k a)/\g.adr=cH (ar [] k a)/\g.kpr=di (ar [] k a)/\g.dep=dM (ar [] k a)/\0=eX (ar [] k a)/\void=fD (ar []
  k a)/\0=fE (ar [] k a) a/\0=dU [] k a))/\((!decide (g.adr.tdiv (bj (aC [] (Key.mk 2 (ae [] g.pos).oid (ae [] g.pos).count void.call void.rights void.value) 15).value)<
  14))=false->aQ IntKind.i64 (g.dep+1)/\(wY (bj (aC [] (Key.mk 2 (ae [] g.pos).oid (ae [] g.pos).count void.call void.rights void.value) 15).value)/\aQ IntKind.i64 (g.adr.tmod
  (bj (aC [] (Key.mk 2 (ae [] g.pos).oid (ae [] g.pos).count void.call void.rights void.value) 15).value)))/\∃g',pw [] k a 0 g'/\sD g'<sD g/\k=k/\void=void/\void=void
  /\void=void/\k=k/\Value.pointer none=Value.pointer none/\aC [] (ae [] g.pos) (g.adr.tdiv (bj (aC [] (Key.mk 2 (ae [] g.pos).oid (ae [] g.pos).count void.call
  void.rights void.value) 15).value))=g'.pos/\g.adr.tmod (bj (aC [] (Key.mk 2 (ae [] g.pos).oid (ae [] g.pos).count void.call void.rights void.value) 15).value)=g'.adr/\aO
  BinOp.or IntKind.i64 g.rts (ae [] g.pos).rights=g'.rts/\g.kpr=g'.kpr/\g.dep+1=g'.dep/\(aC [] (Key.mk 2 (ae [] g.pos).oid (ae [] g.pos).count void.call void.rights void.value)
  15).value=g'.hi/\false=false)))))/\(decide ((ae [] g.pos).kind=2)=false->False)))))):=by
 refine⟨rfl,fun h=>CS (RA h) (by omega),fun h=>absurd h (by decide)⟩
theorem Hv (k:Key) (a:Int) (ha:cy .i64 a):ai Tryz.prog 196 [kS,.key k,.it .i64 a] [] (rm (Fo [] k a)) (fun _ _=>False):=
 aK (inl:=(fun f=>f==195||f==202||f==205||f==206||f==207||f==208)) (ann:=(me [(202,2,SK [0,2] (fun _=> []) 0 (fun g=> .blk tW (SY (kS) g)) (pw [] k a 0) sD)])) (ab z7 (ab aX (ab ia (ab dX (ab jH (ab CJ (ab pc ak))))))) aA (dO Cx) (HE k a ha) (by kernel_rfl)
theorem Ks (L:List Sx.Obj) (k:Key) (a:Int) (ha:cy .i64 a):
 true=true/\(decide (ah L=0)=true->void=cP (ar L k a)/\0=cH (ar L k a)/\void=di (ar L k a)/\0=dM (ar L k a)/\0=eX (ar L k a)/\void=fD (ar L k a)/\0
  =fE (ar L k a) a/\1=dU L k a)/\(decide (ah L=0)=false->((!decide (bf k=0)||aU k&&decide (ah L<=bW k))=true->void=cP (ar L k a)/\0=cH (ar L k a)
  /\void=di (ar L k a)/\0=dM (ar L k a)/\0=eX (ar L k a)/\void=fD (ar L k a)/\0=fE (ar L k a) a/\2=dU L k a)/\((!decide (bf k=0)||aU k&&decide
  (ah L<=bW k))=false->(decide (a<0)=true->void=cP (ar L k a)/\0=cH (ar L k a)/\void=di (ar L k a)/\0=dM (ar L k a)/\0=eX (ar L k a)/\void=fD (ar
  L k a)/\0=fE (ar L k a) a/\4=dU L k a)/\(decide (a<0)=false->true=true/\(∃g,pw L k a 0 g/\L=L/\k=k/\void=void/\void=void/\void=void/\k=k/\k=g.pos/\a=
  g.adr/\0=g.rts/\void=g.kpr/\0=g.dep/\0=g.hi/\false=false)/\∀(g:Wk),pw L k a 0 g->true=true/\((!(decide ((ae L g.pos).kind=3)||decide ((ae L g.pos).kind=2)))=
  true->((!decide (1=0))=true->void=cP (ar L k a)/\0=cH (ar L k a)/\void=di (ar L k a)/\0=dM (ar L k a)/\1=eX (ar L k a)/\g.kpr=fD (ar L k a)/\a=fE
  (ar L k a) a/\0=dU L k a)/\((!decide (1=0))=false->ae L g.pos=cP (ar L k a)/\g.adr=cH (ar L k a)/\g.kpr=di (ar L k a)/\g.dep=dM (ar L k a)/\0=eX (ar L
  k a)/\void=fD (ar L k a)/\0=fE (ar L k a) a/\0=dU L k a))/\((!(decide ((ae L g.pos).kind=3)||decide ((ae L g.pos).kind=2)))=false->(decide ((ae L g.pos).kind=
  3)=true->true=true/\true=true/\((!decide (g.adr<64))=true->((!decide (2=0))=true->void=cP (ar L k a)/\0=cH (ar L k a)/\void=di (ar L k a)/\0=dM (ar L k a)
  /\2=eX (ar L k a)/\g.kpr=fD (ar L k a)/\a=fE (ar L k a) a/\0=dU L k a)/\((!decide (2=0))=false->ae L g.pos=cP (ar L k a)/\g.adr=cH (ar L k a)/\g.kpr=
  di (ar L k a)/\g.dep=dM (ar L k a)/\0=eX (ar L k a)/\void=fD (ar L k a)/\0=fE (ar L k a) a/\0=dU L k a))/\((!decide (g.adr<64))=false->((!decide (aO
  BinOp.and IntKind.i64 g.rts 3=0))=true->Key.mk (ae L g.pos).kind (ae L g.pos).oid (ae L g.pos).count (ae L g.pos).call (aO BinOp.or IntKind.i64 (ae L g.pos).rights 1)
  (ae L g.pos).value=cP (ar L k a)/\g.adr=cH (ar L k a)/\g.kpr=di (ar L k a)/\g.dep=dM (ar L k a)/\0=eX (ar L k a)/\void=fD (ar L k a)/\0=fE (ar L k a)
  a/\0=dU L k a)/\((!decide (aO BinOp.and IntKind.i64 g.rts 3=0))=false->ae L g.pos=cP (ar L k a)/\g.adr=cH (ar L k a)/\g.kpr=di (ar L k a)/\g.dep=dM (ar L k
  a)/\0=eX (ar L k a)/\void=fD (ar L k a)/\0=fE (ar L k a) a/\0=dU L k a)))/\(decide ((ae L g.pos).kind=3)=false->(decide ((ae L g.pos).kind=2)=true->true=
  true/\true=true/\((!decide (g.dep<8))=true->((!decide (3=0))=true->void=cP (ar L k a)/\0=cH (ar L k a)/\void=di (ar L k a)/\0=dM (ar L k a)/\3=eX (ar L k
  a)/\g.kpr=fD (ar L k a)/\a=fE (ar L k a) a/\0=dU L k a)/\((!decide (3=0))=false->ae L g.pos=cP (ar L k a)/\g.adr=cH (ar L k a)/\g.kpr=di (ar L k a)/\
  g.dep=dM (ar L k a)/\0=eX (ar L k a)/\void=fD (ar L k a)/\0=fE (ar L k a) a/\0=dU L k a))/\((!decide (g.dep<8))=false->true=true/\true=true/\((!(decide
  ((aC L (Key.mk 2 (ae L g.pos).oid (ae L g.pos).count void.call void.rights void.value) 15).kind=1)&&decide (1<=(aC L (Key.mk 2 (ae L g.pos).oid (ae L g.pos).count void.call
  void.rights void.value) 15).value)&&decide ((aC L (Key.mk 2 (ae L g.pos).oid (ae L g.pos).count void.call void.rights void.value) 15).value<=8)&&(decide (g.dep=0)||decide ((aC
  L (Key.mk 2 (ae L g.pos).oid (ae L g.pos).count void.call void.rights void.value) 15).value<g.hi))))=true->((!decide (4=0))=true->void=cP (ar L k a)/\0=cH (ar L k a)/\
  void=di (ar L k a)/\0=dM (ar L k a)/\4=eX (ar L k a)/\g.kpr=fD (ar L k a)/\a=fE (ar L k a) a/\0=dU L k a)/\((!decide (4=0))=false->ae L g.pos=cP
  (ar L k a)/\g.adr=cH (ar L k a)/\g.kpr=di (ar L k a)/\g.dep=dM (ar L k a)/\0=eX (ar L k a)/\void=fD (ar L k a)/\0=fE (ar L k a) a/\0=dU L k a))/\
  ((!(decide ((aC L (Key.mk 2 (ae L g.pos).oid (ae L g.pos).count void.call void.rights void.value) 15).kind=1)&&decide (1<=(aC L (Key.mk 2 (ae L g.pos).oid (ae L
  g.pos).count void.call void.rights void.value) 15).value)&&decide ((aC L (Key.mk 2 (ae L g.pos).oid (ae L g.pos).count void.call void.rights void.value) 15).value<=8)&&(decide (g.dep=
  0)||decide ((aC L (Key.mk 2 (ae L g.pos).oid (ae L g.pos).count void.call void.rights void.value) 15).value<g.hi))))=false->true=true/\((decide ((aC L (Key.mk 2 (ae L
  g.pos).oid (ae L g.pos).count void.call void.rights void.value) 14).kind=6)&&decide (aO BinOp.and IntKind.i64 (aO BinOp.or IntKind.i64 g.rts (ae L g.pos).rights) 4=0))=true->
  m7 (aC L (Key.mk 2 (ae L g.pos).oid (ae L g.pos).count void.call void.rights void.value) 15).value/\(wY (bj (aC L (Key.mk 2 (ae L g.pos).oid (ae L g.pos).count
  void.call void.rights void.value) 15).value)/\aQ IntKind.i64 (g.adr.tdiv (bj (aC L (Key.mk 2 (ae L g.pos).oid (ae L g.pos).count void.call void.rights void.value) 15).value)))/\true
  =true/\((!decide (g.adr.tdiv (bj (aC L (Key.mk 2 (ae L g.pos).oid (ae L g.pos).count void.call void.rights void.value) 15).value)<14))=true->((!decide (2=0))=true->void=
  cP (ar L k a)/\0=cH (ar L k a)/\void=di (ar L k a)/\0=dM (ar L k a)/\2=eX (ar L k a)/\aC L (Key.mk 2 (ae L g.pos).oid (ae L g.pos).count void.call
  void.rights void.value) 14=fD (ar L k a)/\a=fE (ar L k a) a/\0=dU L k a)/\((!decide (2=0))=false->ae L g.pos=cP (ar L k a)/\g.adr=cH (ar L k a)/\aC L
  (Key.mk 2 (ae L g.pos).oid (ae L g.pos).count void.call void.rights void.value) 14=di (ar L k a)/\g.dep=dM (ar L k a)/\0=eX (ar L k a)/\void=fD (ar L k a)/\0=fE
  (ar L k a) a/\0=dU L k a))/\((!decide (g.adr.tdiv (bj (aC L (Key.mk 2 (ae L g.pos).oid (ae L g.pos).count void.call void.rights void.value) 15).value)<14))=false->aQ
  IntKind.i64 (g.dep+1)/\(wY (bj (aC L (Key.mk 2 (ae L g.pos).oid (ae L g.pos).count void.call void.rights void.value) 15).value)/\aQ IntKind.i64 (g.adr.tmod (bj (aC L
  (Key.mk 2 (ae L g.pos).oid (ae L g.pos).count void.call void.rights void.value) 15).value)))/\∃g',pw L k a 0 g'/\sD g'<sD g/\L=L/\k=k/\void=void/\void=void/\void=void
  /\k=k/\aC L (ae L g.pos) (g.adr.tdiv (bj (aC L (Key.mk 2 (ae L g.pos).oid (ae L g.pos).count void.call void.rights void.value) 15).value))=g'.pos/\g.adr.tmod (bj
  (aC L (Key.mk 2 (ae L g.pos).oid (ae L g.pos).count void.call void.rights void.value) 15).value)=g'.adr/\aO BinOp.or IntKind.i64 g.rts (ae L g.pos).rights=g'.rts/\aC L
  (Key.mk 2 (ae L g.pos).oid (ae L g.pos).count void.call void.rights void.value) 14=g'.kpr/\g.dep+1=g'.dep/\(aC L (Key.mk 2 (ae L g.pos).oid (ae L g.pos).count void.call
  void.rights void.value) 15).value=g'.hi/\false=false))/\((decide ((aC L (Key.mk 2 (ae L g.pos).oid (ae L g.pos).count void.call void.rights void.value) 14).kind=6)&&decide (aO
  BinOp.and IntKind.i64 (aO BinOp.or IntKind.i64 g.rts (ae L g.pos).rights) 4=0))=false->m7 (aC L (Key.mk 2 (ae L g.pos).oid (ae L g.pos).count void.call void.rights
  void.value) 15).value/\(wY (bj (aC L (Key.mk 2 (ae L g.pos).oid (ae L g.pos).count void.call void.rights void.value) 15).value)/\aQ IntKind.i64 (g.adr.tdiv (bj (aC L
  (Key.mk 2 (ae L g.pos).oid (ae L g.pos).count void.call void.rights void.value) 15).value)))/\true=true/\((!decide (g.adr.tdiv (bj (aC L (Key.mk 2 (ae L g.pos).oid (ae L
  g.pos).count void.call void.rights void.value) 15).value)<14))=true->((!decide (2=0))=true->void=cP (ar L k a)/\0=cH (ar L k a)/\void=di (ar L k a)/\0=dM (ar L k a)
  /\2=eX (ar L k a)/\g.kpr=fD (ar L k a)/\a=fE (ar L k a) a/\0=dU L k a)/\((!decide (2=0))=false->ae L g.pos=cP (ar L k a)/\g.adr=cH (ar L k a)/\g.kpr=
  di (ar L k a)/\g.dep=dM (ar L k a)/\0=eX (ar L k a)/\void=fD (ar L k a)/\0=fE (ar L k a) a/\0=dU L k a))/\((!decide (g.adr.tdiv (bj (aC L (Key.mk 2 (ae
  L g.pos).oid (ae L g.pos).count void.call void.rights void.value) 15).value)<14))=false->aQ IntKind.i64 (g.dep+1)/\(wY (bj (aC L (Key.mk 2 (ae L g.pos).oid (ae L
  g.pos).count void.call void.rights void.value) 15).value)/\aQ IntKind.i64 (g.adr.tmod (bj (aC L (Key.mk 2 (ae L g.pos).oid (ae L g.pos).count void.call void.rights void.value)
  15).value)))/\∃g',pw L k a 0 g'/\sD g'<sD g/\L=L/\k=k/\void=void/\void=void/\void=void/\k=k/\aC L (ae L g.pos) (g.adr.tdiv (bj (aC L (Key.mk 2 (ae L
  g.pos).oid (ae L g.pos).count void.call void.rights void.value) 15).value))=g'.pos/\g.adr.tmod (bj (aC L (Key.mk 2 (ae L g.pos).oid (ae L g.pos).count void.call void.rights
  void.value) 15).value)=g'.adr/\aO BinOp.or IntKind.i64 g.rts (ae L g.pos).rights=g'.rts/\g.kpr=g'.kpr/\g.dep+1=g'.dep/\(aC L (Key.mk 2 (ae L g.pos).oid (ae L
  g.pos).count void.call void.rights void.value) 15).value=g'.hi/\false=false)))))/\(decide ((ae L g.pos).kind=2)=false->False)))))):=by
 refine⟨rfl,fun h=>CS (RA h) (by omega),fun h=>⟨fun h2=>?_,fun h2=>⟨fun h3=>?_,fun h3=>⟨rfl,?_,fun g hI=>⟨rfl,?_⟩⟩⟩⟩⟩
 ·rw[xa,Bool.not_eq_true']at h2;exact CS (by rw[P0 h,h2];rfl) (by omega)
 ·rw[xa,Bool.not_eq_false']at h2;exact CS (by rw[P0 h,h2,To rfl,To (Tl h3)]) (by omega)
 ·refine⟨vv k a 0,SD (Tk h3) 0,?_⟩;repeat' apply And.intro
  all_goals rfl
 rw[xa,Bool.not_eq_false']at h2;have hE:dU L k a=0:=by rw[P0 h,h2,To rfl,Tn (Tk h3)]
 clear h h2 h3;obtain⟨⟨a1,a2⟩,⟨r1,r2⟩,⟨d1,d2⟩,e1,e2,e3⟩:=id hI;refine⟨fun v=>⟨fun _=>?_,fun h=>absurd h (by decide)⟩,fun v=>⟨fun v3=>⟨rfl,rfl,fun b=>⟨fun _=>?_,fun h=>absurd h (by decide)⟩,fun b=>⟨fun ro=>?_,fun ro=>?_⟩⟩,fun v3=>⟨fun v2=>?_,fun v2=>?_⟩⟩⟩
 ·simp only[Bool.not_eq_true',Bool.or_eq_false_iff,decide_eq_false_iff_not]at v;exact xw hI hE (La d1 d2 v.1 v.2) (by omega)
 ·have v3:=Tl v3;exact xw hI hE (NR d1 d2 v3 (by simpa using b)) (by omega)
 ·have v3:=Tl v3;have hb:g.adr<64:=by simpa using b
  have hp:=eR (mG L g.pos);have hm:cm (ae L g.pos).kind=1:=by rw[v3];rfl
  rw[K4 r1 r2]at ro;have ro:g.rts.tmod 4≠0:=by simpa using ro
  refine MW hI hE ((CO d1 d2 v3 hb).trans ?_);rw[zK hp.1 (by omega)]
  unfold oB;rw[Tn ro];rfl
 ·have v3:=Tl v3;have hb:g.adr<64:=by simpa using b
  rw[K4 r1 r2]at ro;have ro:g.rts.tmod 4=0:=by simpa using ro
  refine MW hI hE ((CO d1 d2 v3 hb).trans ?_);unfold oB;rw[To ro]
 ·have v3:=Tk v3;have v2:=Tl v2;obtain⟨pe,pi⟩:=DC (.inl v2);have pi':aM L (ae L g.pos)=true:=by rw[pe];exact pi
  have hp:=nJ (mG L g.pos);have ho:=Qt r1 r2 hp.1 hp.2;rw[GO (i:=15) pi' v2 (by omega) (by omega),GO (i:=14) pi' v2 (by omega) (by omega),ho.1,Sm ho.2.1 ho.2.2]
  refine⟨rfl,rfl,fun b=>⟨fun _=>?_,fun h=>absurd h (by decide)⟩,fun b=>⟨rfl,rfl,fun f=>⟨fun _=>?_,fun h=>absurd h (by decide)⟩,fun f=>⟨rfl,?_⟩⟩⟩
  ·exact xw hI hE (OL d1 d2 v2 (by simpa using b)) (by omega)
  ·have b:g.dep<8:=by simpa using b
   exact xw hI hE (Mo d1 d2 v2 b (by unfold oy;rw[Bool.not_eq_true']at f;exact f)) (by omega)
  ·have b:g.dep<8:=by simpa using b
   have f:oy g (cM L (bR (ae L g.pos) 0) 15)=true:=by unfold oy;rw[Bool.not_eq_false']at f;exact f
   have hf':=x9.1 f;have he:=uq (show(cM L (bR (ae L g.pos) 0) 15).value<=9 by omega)
   have hd:=sQ a1 he.1;have q1:m7 (cM L (bR (ae L g.pos) 0) 15).value:=⟨by omega,by omega⟩
   have q2:wY (bj (cM L (bR (ae L g.pos) 0) 15).value):=by unfold wY;omega
   unfold cy at ha;have q3:aQ IntKind.i64 (g.adr.tdiv (bj (cM L (bR (ae L g.pos) 0) 15).value)):=by simp only[aQ,cy];omega
   have q4:aQ IntKind.i64 (g.adr.tmod (bj (cM L (bR (ae L g.pos) 0) 15).value)):=by simp only[aQ,cy];omega
   have q5:aQ IntKind.i64 (g.dep+1):=by simp only[aQ,cy];omega
   have kp:∀b,(decide ((cM L (bR (ae L g.pos) 0) 14).kind=6)&&decide (qR g.rts (ae L g.pos).rights<4))=b->AB (qR g.rts (ae L g.pos).rights) (cM L (bR (ae L g.pos) 0) 14) g.kpr=if b then cM L (bR (ae L g.pos) 0) 14 else g.kpr:=by
    intro b hb;unfold AB;cases b
    ·simp only[Bool.and_eq_false_iff,decide_eq_false_iff_not]at hb;rw[Tn (by omega)];rfl
    ·simp only[Th,Ti]at hb;rw[To hb];rfl
   refine⟨fun c=>⟨q1,⟨q2,q3⟩,rfl,fun s=>⟨fun _=>?_,fun h=>absurd h (by decide)⟩,fun s=>⟨q5,⟨q2,q4⟩,JY L g,?_⟩⟩,fun c=>⟨q1,⟨q2,q3⟩,rfl,fun s=>⟨fun _=>?_,fun h=>absurd h (by decide)⟩,fun s=>⟨q5,⟨q2,q4⟩,JY L g,?_⟩⟩⟩
   ·exact xw hI hE ((CN d1 d2 v2 b f (by simpa using s)).trans (by rw[kp _ c];rfl)) (by omega)
   ·have s:g.adr.tdiv (bj (cM L (bR (ae L g.pos) 0) 15).value)<14:=by simpa using s
    obtain⟨n1,n2⟩:=Nk hI v2 b f s;rw[BT pi' v2 hd.1 (by omega)]
    refine⟨n1,n2,rfl,rfl,rfl,rfl,rfl,rfl,rfl,rfl,rfl,?_,rfl,rfl,rfl⟩;show _=AB _ _ _
    rw[kp _ c];rfl
   ·exact xw hI hE ((CN d1 d2 v2 b f (by simpa using s)).trans (by rw[kp _ c];rfl)) (by omega)
   ·have s:g.adr.tdiv (bj (cM L (bR (ae L g.pos) 0) 15).value)<14:=by simpa using s
    obtain⟨n1,n2⟩:=Nk hI v2 b f s;rw[BT pi' v2 hd.1 (by omega)]
    refine⟨n1,n2,rfl,rfl,rfl,rfl,rfl,rfl,rfl,rfl,rfl,?_,rfl,rfl,rfl⟩;show _=AB _ _ _
    rw[kp _ c];rfl
 ·simp only[Bool.not_eq_false',Bool.or_eq_true,Ti]at v;have v3:=Tk v3;have v2:=Tk v2;omega
theorem KR (L:List Sx.Obj) (k:Key) (a:Int) (ha:cy .i64 a):ai Tryz.prog 196 [.lp 0 0,.key k,.it .i64 a] [.ro (.store tS eS L)] (rm (Fo L k a)) (fun _ _=>False):=
 aK (inl:=(fun f=>f==195||f==202||f==205||f==206||f==207||f==208)) (ann:=(me [(202,2,SK [0,2] (fun _=> []) 0 (fun g=> .blk tW (SY (.lp 0 0) g)) (pw L k a 0) sD)])) (ab z7 (ab aX (ab ia (ab dX (ab jH (ab CJ (ab pc ak))))))) aA (dO Cx) (Ks L k a ha) (by kernel_rfl)
theorem DL:cW Tryz.prog 196 OR:=
 kY (aY rf (aY mF (aY j6 fz))) (fun _=>rfl) fun a hq hok=>by
  obtain⟨S,k,i,_⟩:=a;cases S with
  |none=>exact Hv k i hok.2.2.1
  |some L=>exact KR L k i hok.2.2.1
end Go.Proofs.YtghpaegglbbocaaGreat
