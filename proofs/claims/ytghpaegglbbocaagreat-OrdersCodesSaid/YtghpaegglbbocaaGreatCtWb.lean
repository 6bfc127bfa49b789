import Derived.Test.YtghpaegglbbocaaGreatCtWa
import Derived.Test.YtghpaegglbbocaaGreatCV
set_option linter.unusedSimpArgs false
set_option linter.unusedVariables false
namespace Go.Proofs.YtghpaegglbbocaaGreat
open Go.Sx
set_option maxRecDepth 100000
theorem L9:
 ∀(nid:Nat),some (V.mp nid)=some (V.mp nid)/\some [aI.mp IntKind.i64 [3,2] [V.fn 206 [],V.fn 207 []]]=some [aI.mp IntKind.i64 [3,2] [V.fn 206 [],V.fn 207 []]]:=by
 exact fun nid=>⟨rfl,rfl⟩
theorem Cl:ck Tryz.prog 204 (DJ Yf Yh):=yp (π:= [0]) (by decide) (fun _=>rfl) (bp (inl:=bn) (ann:=aP) ak aC L9 (by kernel_rfl))
theorem LD (k:Key) (a:Int) (ha:bY .i64 a):
 true=true/\(decide (an []=0)=true->void=bV (ar [] k a)/\0=bU (ar [] k a)/\void=cO (ar [] k a)/\0=c8 (ar [] k a)/\0=en (ar [] k a)/\void=fc (ar [] k
  a)/\0=fe (ar [] k a) a/\1=c9 [] k a)/\(decide (an []=0)=false->((!decide (bD k=0)||bg k&&decide (an []<=cS k))=true->void=bV (ar [] k a)/\0=bU
  (ar [] k a)/\void=cO (ar [] k a)/\0=c8 (ar [] k a)/\0=en (ar [] k a)/\void=fc (ar [] k a)/\0=fe (ar [] k a) a/\2=c9 [] k a)/\((!decide (bD k=0)||
  bg k&&decide (an []<=cS k))=false->(decide (a<0)=true->void=bV (ar [] k a)/\0=bU (ar [] k a)/\void=cO (ar [] k a)/\0=c8 (ar [] k a)/\0=en (ar []
  k a)/\void=fc (ar [] k a)/\0=fe (ar [] k a) a/\4=c9 [] k a)/\(decide (a<0)=false->true=true/\(∃g,mX [] k a 0 g/\k=k/\void=void/\void=void/\void=void/\k=k
  /\Value.pointer none=Value.pointer none/\k=g.pos/\a=g.adr/\0=g.rts/\void=g.kpr/\0=g.dep/\0=g.hi/\false=false)/\∀(g:Wk),mX [] k a 0 g->true=true/\((!(decide ((ae []
  g.pos).kind=3)||decide ((ae [] g.pos).kind=2)))=true->((!decide (1=0))=true->void=bV (ar [] k a)/\0=bU (ar [] k a)/\void=cO (ar [] k a)/\0=c8 (ar [] k a)/\
  1=en (ar [] k a)/\g.kpr=fc (ar [] k a)/\a=fe (ar [] k a) a/\0=c9 [] k a)/\((!decide (1=0))=false->ae [] g.pos=bV (ar [] k a)/\g.adr=bU (ar [] k a)/\
  g.kpr=cO (ar [] k a)/\g.dep=c8 (ar [] k a)/\0=en (ar [] k a)/\void=fc (ar [] k a)/\0=fe (ar [] k a) a/\0=c9 [] k a))/\((!(decide ((ae [] g.pos).kind=3)||
  decide ((ae [] g.pos).kind=2)))=false->(decide ((ae [] g.pos).kind=3)=true->true=true/\true=true/\((!decide (g.adr<64))=true->((!decide (2=0))=true->void=bV (ar
  [] k a)/\0=bU (ar [] k a)/\void=cO (ar [] k a)/\0=c8 (ar [] k a)/\2=en (ar [] k a)/\g.kpr=fc (ar [] k a)/\a=fe (ar [] k a) a/\0=c9 [] k a)/\((!decide (2
  =0))=false->ae [] g.pos=bV (ar [] k a)/\g.adr=bU (ar [] k a)/\g.kpr=cO (ar [] k a)/\g.dep=c8 (ar [] k a)/\0=en (ar [] k a)/\void=fc (ar [] k a)/\0=
  fe (ar [] k a) a/\0=c9 [] k a))/\((!decide (g.adr<64))=false->((!decide (bd BinOp.and IntKind.i64 g.rts 3=0))=true->Key.mk (ae [] g.pos).kind (ae [] g.pos).oid (ae []
  g.pos).count (ae [] g.pos).call (bd BinOp.or IntKind.i64 (ae [] g.pos).rights 1) (ae [] g.pos).value=bV (ar [] k a)/\g.adr=bU (ar [] k a)/\g.kpr=cO (ar [] k a)/\
  g.dep=c8 (ar [] k a)/\0=en (ar [] k a)/\void=fc (ar [] k a)/\0=fe (ar [] k a) a/\0=c9 [] k a)/\((!decide (bd BinOp.and IntKind.i64 g.rts 3=0))=false->ae []
  g.pos=bV (ar [] k a)/\g.adr=bU (ar [] k a)/\g.kpr=cO (ar [] k a)/\g.dep=c8 (ar [] k a)/\0=en (ar [] k a)/\void=fc (ar [] k a)/\0=fe (ar [] k a) a/\0=
  c9 [] k a)))/\(decide ((ae [] g.pos).kind=3)=false->(decide ((ae [] g.pos).kind=2)=true->true=true/\true=true/\((!decide (g.dep<8))=true->((!decide (3=0))=true->
  void=bV (ar [] k a)/\0=bU (ar [] k a)/\void=cO (ar [] k a)/\0=c8 (ar [] k a)/\3=en (ar [] k a)/\g.kpr=fc (ar [] k a)/\a=fe (ar [] k a) a/\0=c9 [] k
  a)/\((!decide (3=0))=false->ae [] g.pos=bV (ar [] k a)/\g.adr=bU (ar [] k a)/\g.kpr=cO (ar [] k a)/\g.dep=c8 (ar [] k a)/\0=en (ar [] k a)/\void=fc
  (ar [] k a)/\0=fe (ar [] k a) a/\0=c9 [] k a))/\((!decide (g.dep<8))=false->true=true/\true=true/\((!(decide ((aF [] (Key.mk 2 (ae [] g.pos).oid (ae []
  g.pos).count void.call void.rights void.value) 15).kind=1)&&decide (1<=(aF [] (Key.mk 2 (ae [] g.pos).oid (ae [] g.pos).count void.call void.rights void.value) 15).value)&&decide
  ((aF [] (Key.mk 2 (ae [] g.pos).oid (ae [] g.pos).count void.call void.rights void.value) 15).value<=8)&&(decide (g.dep=0)||decide ((aF [] (Key.mk 2 (ae [] g.pos).oid (ae
  [] g.pos).count void.call void.rights void.value) 15).value<g.hi))))=true->((!decide (4=0))=true->void=bV (ar [] k a)/\0=bU (ar [] k a)/\void=cO (ar [] k a)/\0=c8
  (ar [] k a)/\4=en (ar [] k a)/\g.kpr=fc (ar [] k a)/\a=fe (ar [] k a) a/\0=c9 [] k a)/\((!decide (4=0))=false->ae [] g.pos=bV (ar [] k a)/\g.adr=bU
  (ar [] k a)/\g.kpr=cO (ar [] k a)/\g.dep=c8 (ar [] k a)/\0=en (ar [] k a)/\void=fc (ar [] k a)/\0=fe (ar [] k a) a/\0=c9 [] k a))/\((!(decide ((aF []
  (Key.mk 2 (ae [] g.pos).oid (ae [] g.pos).count void.call void.rights void.value) 15).kind=1)&&decide (1<=(aF [] (Key.mk 2 (ae [] g.pos).oid (ae [] g.pos).count void.call
  void.rights void.value) 15).value)&&decide ((aF [] (Key.mk 2 (ae [] g.pos).oid (ae [] g.pos).count void.call void.rights void.value) 15).value<=8)&&(decide (g.dep=0)||decide
  ((aF [] (Key.mk 2 (ae [] g.pos).oid (ae [] g.pos).count void.call void.rights void.value) 15).value<g.hi))))=false->true=true/\((decide ((aF [] (Key.mk 2 (ae [] g.pos).oid
  (ae [] g.pos).count void.call void.rights void.value) 14).kind=6)&&decide (bd BinOp.and IntKind.i64 (bd BinOp.or IntKind.i64 g.rts (ae [] g.pos).rights) 4=0))=true->jb
  (aF [] (Key.mk 2 (ae [] g.pos).oid (ae [] g.pos).count void.call void.rights void.value) 15).value/\(nf (aX (aF [] (Key.mk 2 (ae [] g.pos).oid (ae [] g.pos).count
  void.call void.rights void.value) 15).value)/\aG IntKind.i64 (g.adr.tdiv (aX (aF [] (Key.mk 2 (ae [] g.pos).oid (ae [] g.pos).count void.call void.rights void.value) 15).value)))/\
  true=true/\((!decide (g.adr.tdiv (aX (aF [] (Key.mk 2 (ae [] g.pos).oid (ae [] g.pos).count void.call void.rights void.value) 15).value)<14))=true->((!decide (2=0))=true->
  void=bV (ar [] k a)/\0=bU (ar [] k a)/\void=cO (ar [] k a)/\0=c8 (ar [] k a)/\2=en (ar [] k a)/\aF [] (Key.mk 2 (ae [] g.pos).oid (ae [] g.pos).count
  void.call void.rights void.value) 14=fc (ar [] k a)/\a=fe (ar [] k a) a/\0=c9 [] k a)/\((!decide (2=0))=false->ae [] g.pos=bV (ar [] k a)/\g.adr=bU (ar [] k a)
  /\aF [] (Key.mk 2 (ae [] g.pos).oid (ae [] g.pos).count void.call void.rights void.value) 14=cO (ar [] k a)/\g.dep=c8 (ar [] k a)/\0=en (ar [] k a)/\void=fc (ar
  [] k a)/\0=fe (ar [] k a) a/\0=c9 [] k a))/\((!decide (g.adr.tdiv (aX (aF [] (Key.mk 2 (ae [] g.pos).oid (ae [] g.pos).count void.call void.rights void.value) 15).value)<
  14))=false->aG IntKind.i64 (g.dep+1)/\(nf (aX (aF [] (Key.mk 2 (ae [] g.pos).oid (ae [] g.pos).count void.call void.rights void.value) 15).value)/\aG IntKind.i64 (g.adr.tmod
  (aX (aF [] (Key.mk 2 (ae [] g.pos).oid (ae [] g.pos).count void.call void.rights void.value) 15).value)))/\∃g',mX [] k a 0 g'/\oi g'<oi g/\k=k/\void=void/\void=void
  /\void=void/\k=k/\Value.pointer none=Value.pointer none/\aF [] (ae [] g.pos) (g.adr.tdiv (aX (aF [] (Key.mk 2 (ae [] g.pos).oid (ae [] g.pos).count void.call
  void.rights void.value) 15).value))=g'.pos/\g.adr.tmod (aX (aF [] (Key.mk 2 (ae [] g.pos).oid (ae [] g.pos).count void.call void.rights void.value) 15).value)=g'.adr/\bd
  BinOp.or IntKind.i64 g.rts (ae [] g.pos).rights=g'.rts/\aF [] (Key.mk 2 (ae [] g.pos).oid (ae [] g.pos).count void.call void.rights void.value) 14=g'.kpr/\g.dep+1=g'.dep/\
  (aF [] (Key.mk 2 (ae [] g.pos).oid (ae [] g.pos).count void.call void.rights void.value) 15).value=g'.hi/\false=false))/\((decide ((aF [] (Key.mk 2 (ae [] g.pos).oid (ae
  [] g.pos).count void.call void.rights void.value) 14).kind=6)&&decide (bd BinOp.and IntKind.i64 (bd BinOp.or IntKind.i64 g.rts (ae [] g.pos).rights) 4=0))=false->jb (aF []
  (Key.mk 2 (ae [] g.pos).oid (ae [] g.pos).count void.call void.rights void.value) 15).value/\(nf (aX (aF [] (Key.mk 2 (ae [] g.pos).oid (ae [] g.pos).count void.call
  void.rights void.value) 15).value)/\aG IntKind.i64 (g.adr.tdiv (aX (aF [] (Key.mk 2 (ae [] g.pos).oid (ae [] g.pos).count void.call void.rights void.value) 15).value)))/\true=true
  /\((!decide (g.adr.tdiv (aX (aF [] (Key.mk 2 (ae [] g.pos).oid (ae [] g.pos).count void.call void.rights void.value) 15).value)<14))=true->((!decide (2=0))=true->void=bV
  (ar [] k a)/\0=bU (ar [] k a)/\void=cO (ar [] k a)/\0=c8 (ar [] k a)/\2=en (ar [] k a)/\g.kpr=fc (ar [] k a)/\a=fe (ar [] k a) a/\0=c9 [] k a)/\
  ((!decide (2=0))=false->ae [] g.pos=bV (ar [] k a)/\g.adr=bU (ar [] k a)/\g.kpr=cO (ar [] k a)/\g.dep=c8 (ar [] k a)/\0=en (ar [] k a)/\void=fc (ar []
  k a)/\0=fe (ar [] k a) a/\0=c9 [] k a))/\((!decide (g.adr.tdiv (aX (aF [] (Key.mk 2 (ae [] g.pos).oid (ae [] g.pos).count void.call void.rights void.value) 15).value)<
  14))=false->aG IntKind.i64 (g.dep+1)/\(nf (aX (aF [] (Key.mk 2 (ae [] g.pos).oid (ae [] g.pos).count void.call void.rights void.value) 15).value)/\aG IntKind.i64 (g.adr.tmod
  (aX (aF [] (Key.mk 2 (ae [] g.pos).oid (ae [] g.pos).count void.call void.rights void.value) 15).value)))/\∃g',mX [] k a 0 g'/\oi g'<oi g/\k=k/\void=void/\void=void
  /\void=void/\k=k/\Value.pointer none=Value.pointer none/\aF [] (ae [] g.pos) (g.adr.tdiv (aX (aF [] (Key.mk 2 (ae [] g.pos).oid (ae [] g.pos).count void.call
  void.rights void.value) 15).value))=g'.pos/\g.adr.tmod (aX (aF [] (Key.mk 2 (ae [] g.pos).oid (ae [] g.pos).count void.call void.rights void.value) 15).value)=g'.adr/\bd
  BinOp.or IntKind.i64 g.rts (ae [] g.pos).rights=g'.rts/\g.kpr=g'.kpr/\g.dep+1=g'.dep/\(aF [] (Key.mk 2 (ae [] g.pos).oid (ae [] g.pos).count void.call void.rights void.value)
  15).value=g'.hi/\false=false)))))/\(decide ((ae [] g.pos).kind=2)=false->False)))))):=by
 refine⟨rfl,fun h=>yF (Wp h) (by omega),fun h=>absurd h (by decide)⟩
theorem LA (k:Key) (a:Int) (ha:bY .i64 a):ai Tryz.prog 196 [lh,.key k,.it .i64 a] [] (mG (CT [] k a)) (fun _ _=>False):=
 aW (inl:=(fun f=>f==195||f==202||f==205||f==206||f==207||f==208)) (ann:=(iz [(202,2,RK [0,2] (fun _=> []) 0 (fun g=> .blk tW (X3 (lh) g)) (mX [] k a 0) oi)])) (ab Cl (ab bB (ab je (ab eY (ab lf (ab Gb (ab qW ak))))))) aC (eH FQ) (LD k a ha) (by kernel_rfl)
theorem P4 (L:List Sx.Obj) (k:Key) (a:Int) (ha:bY .i64 a):
 true=true/\(decide (an L=0)=true->void=bV (ar L k a)/\0=bU (ar L k a)/\void=cO (ar L k a)/\0=c8 (ar L k a)/\0=en (ar L k a)/\void=fc (ar L k a)/\0
  =fe (ar L k a) a/\1=c9 L k a)/\(decide (an L=0)=false->((!decide (bD k=0)||bg k&&decide (an L<=cS k))=true->void=bV (ar L k a)/\0=bU (ar L k a)
  /\void=cO (ar L k a)/\0=c8 (ar L k a)/\0=en (ar L k a)/\void=fc (ar L k a)/\0=fe (ar L k a) a/\2=c9 L k a)/\((!decide (bD k=0)||bg k&&decide
  (an L<=cS k))=false->(decide (a<0)=true->void=bV (ar L k a)/\0=bU (ar L k a)/\void=cO (ar L k a)/\0=c8 (ar L k a)/\0=en (ar L k a)/\void=fc (ar
  L k a)/\0=fe (ar L k a) a/\4=c9 L k a)/\(decide (a<0)=false->true=true/\(∃g,mX L k a 0 g/\L=L/\k=k/\void=void/\void=void/\void=void/\k=k/\k=g.pos/\a=
  g.adr/\0=g.rts/\void=g.kpr/\0=g.dep/\0=g.hi/\false=false)/\∀(g:Wk),mX L k a 0 g->true=true/\((!(decide ((ae L g.pos).kind=3)||decide ((ae L g.pos).kind=2)))=
  true->((!decide (1=0))=true->void=bV (ar L k a)/\0=bU (ar L k a)/\void=cO (ar L k a)/\0=c8 (ar L k a)/\1=en (ar L k a)/\g.kpr=fc (ar L k a)/\a=fe
  (ar L k a) a/\0=c9 L k a)/\((!decide (1=0))=false->ae L g.pos=bV (ar L k a)/\g.adr=bU (ar L k a)/\g.kpr=cO (ar L k a)/\g.dep=c8 (ar L k a)/\0=en (ar L
  k a)/\void=fc (ar L k a)/\0=fe (ar L k a) a/\0=c9 L k a))/\((!(decide ((ae L g.pos).kind=3)||decide ((ae L g.pos).kind=2)))=false->(decide ((ae L g.pos).kind=
  3)=true->true=true/\true=true/\((!decide (g.adr<64))=true->((!decide (2=0))=true->void=bV (ar L k a)/\0=bU (ar L k a)/\void=cO (ar L k a)/\0=c8 (ar L k a)
  /\2=en (ar L k a)/\g.kpr=fc (ar L k a)/\a=fe (ar L k a) a/\0=c9 L k a)/\((!decide (2=0))=false->ae L g.pos=bV (ar L k a)/\g.adr=bU (ar L k a)/\g.kpr=
  cO (ar L k a)/\g.dep=c8 (ar L k a)/\0=en (ar L k a)/\void=fc (ar L k a)/\0=fe (ar L k a) a/\0=c9 L k a))/\((!decide (g.adr<64))=false->((!decide (bd
  BinOp.and IntKind.i64 g.rts 3=0))=true->Key.mk (ae L g.pos).kind (ae L g.pos).oid (ae L g.pos).count (ae L g.pos).call (bd BinOp.or IntKind.i64 (ae L g.pos).rights 1)
  (ae L g.pos).value=bV (ar L k a)/\g.adr=bU (ar L k a)/\g.kpr=cO (ar L k a)/\g.dep=c8 (ar L k a)/\0=en (ar L k a)/\void=fc (ar L k a)/\0=fe (ar L k a)
  a/\0=c9 L k a)/\((!decide (bd BinOp.and IntKind.i64 g.rts 3=0))=false->ae L g.pos=bV (ar L k a)/\g.adr=bU (ar L k a)/\g.kpr=cO (ar L k a)/\g.dep=c8 (ar L k
  a)/\0=en (ar L k a)/\void=fc (ar L k a)/\0=fe (ar L k a) a/\0=c9 L k a)))/\(decide ((ae L g.pos).kind=3)=false->(decide ((ae L g.pos).kind=2)=true->true=
  true/\true=true/\((!decide (g.dep<8))=true->((!decide (3=0))=true->void=bV (ar L k a)/\0=bU (ar L k a)/\void=cO (ar L k a)/\0=c8 (ar L k a)/\3=en (ar L k
  a)/\g.kpr=fc (ar L k a)/\a=fe (ar L k a) a/\0=c9 L k a)/\((!decide (3=0))=false->ae L g.pos=bV (ar L k a)/\g.adr=bU (ar L k a)/\g.kpr=cO (ar L k a)/\
  g.dep=c8 (ar L k a)/\0=en (ar L k a)/\void=fc (ar L k a)/\0=fe (ar L k a) a/\0=c9 L k a))/\((!decide (g.dep<8))=false->true=true/\true=true/\((!(decide
  ((aF L (Key.mk 2 (ae L g.pos).oid (ae L g.pos).count void.call void.rights void.value) 15).kind=1)&&decide (1<=(aF L (Key.mk 2 (ae L g.pos).oid (ae L g.pos).count void.call
  void.rights void.value) 15).value)&&decide ((aF L (Key.mk 2 (ae L g.pos).oid (ae L g.pos).count void.call void.rights void.value) 15).value<=8)&&(decide (g.dep=0)||decide ((aF
  L (Key.mk 2 (ae L g.pos).oid (ae L g.pos).count void.call void.rights void.value) 15).value<g.hi))))=true->((!decide (4=0))=true->void=bV (ar L k a)/\0=bU (ar L k a)/\
  void=cO (ar L k a)/\0=c8 (ar L k a)/\4=en (ar L k a)/\g.kpr=fc (ar L k a)/\a=fe (ar L k a) a/\0=c9 L k a)/\((!decide (4=0))=false->ae L g.pos=bV
  (ar L k a)/\g.adr=bU (ar L k a)/\g.kpr=cO (ar L k a)/\g.dep=c8 (ar L k a)/\0=en (ar L k a)/\void=fc (ar L k a)/\0=fe (ar L k a) a/\0=c9 L k a))/\
  ((!(decide ((aF L (Key.mk 2 (ae L g.pos).oid (ae L g.pos).count void.call void.rights void.value) 15).kind=1)&&decide (1<=(aF L (Key.mk 2 (ae L g.pos).oid (ae L
  g.pos).count void.call void.rights void.value) 15).value)&&decide ((aF L (Key.mk 2 (ae L g.pos).oid (ae L g.pos).count void.call void.rights void.value) 15).value<=8)&&(decide (g.dep=
  0)||decide ((aF L (Key.mk 2 (ae L g.pos).oid (ae L g.pos).count void.call void.rights void.value) 15).value<g.hi))))=false->true=true/\((decide ((aF L (Key.mk 2 (ae L
  g.pos).oid (ae L g.pos).count void.call void.rights void.value) 14).kind=6)&&decide (bd BinOp.and IntKind.i64 (bd BinOp.or IntKind.i64 g.rts (ae L g.pos).rights) 4=0))=true->
  jb (aF L (Key.mk 2 (ae L g.pos).oid (ae L g.pos).count void.call void.rights void.value) 15).value/\(nf (aX (aF L (Key.mk 2 (ae L g.pos).oid (ae L g.pos).count
  void.call void.rights void.value) 15).value)/\aG IntKind.i64 (g.adr.tdiv (aX (aF L (Key.mk 2 (ae L g.pos).oid (ae L g.pos).count void.call void.rights void.value) 15).value)))/\true
  =true/\((!decide (g.adr.tdiv (aX (aF L (Key.mk 2 (ae L g.pos).oid (ae L g.pos).count void.call void.rights void.value) 15).value)<14))=true->((!decide (2=0))=true->void=
  bV (ar L k a)/\0=bU (ar L k a)/\void=cO (ar L k a)/\0=c8 (ar L k a)/\2=en (ar L k a)/\aF L (Key.mk 2 (ae L g.pos).oid (ae L g.pos).count void.call
  void.rights void.value) 14=fc (ar L k a)/\a=fe (ar L k a) a/\0=c9 L k a)/\((!decide (2=0))=false->ae L g.pos=bV (ar L k a)/\g.adr=bU (ar L k a)/\aF L
  (Key.mk 2 (ae L g.pos).oid (ae L g.pos).count void.call void.rights void.value) 14=cO (ar L k a)/\g.dep=c8 (ar L k a)/\0=en (ar L k a)/\void=fc (ar L k a)/\0=fe
  (ar L k a) a/\0=c9 L k a))/\((!decide (g.adr.tdiv (aX (aF L (Key.mk 2 (ae L g.pos).oid (ae L g.pos).count void.call void.rights void.value) 15).value)<14))=false->aG
  IntKind.i64 (g.dep+1)/\(nf (aX (aF L (Key.mk 2 (ae L g.pos).oid (ae L g.pos).count void.call void.rights void.value) 15).value)/\aG IntKind.i64 (g.adr.tmod (aX (aF L
  (Key.mk 2 (ae L g.pos).oid (ae L g.pos).count void.call void.rights void.value) 15).value)))/\∃g',mX L k a 0 g'/\oi g'<oi g/\L=L/\k=k/\void=void/\void=void/\void=void
  /\k=k/\aF L (ae L g.pos) (g.adr.tdiv (aX (aF L (Key.mk 2 (ae L g.pos).oid (ae L g.pos).count void.call void.rights void.value) 15).value))=g'.pos/\g.adr.tmod (aX
  (aF L (Key.mk 2 (ae L g.pos).oid (ae L g.pos).count void.call void.rights void.value) 15).value)=g'.adr/\bd BinOp.or IntKind.i64 g.rts (ae L g.pos).rights=g'.rts/\aF L
  (Key.mk 2 (ae L g.pos).oid (ae L g.pos).count void.call void.rights void.value) 14=g'.kpr/\g.dep+1=g'.dep/\(aF L (Key.mk 2 (ae L g.pos).oid (ae L g.pos).count void.call
  void.rights void.value) 15).value=g'.hi/\false=false))/\((decide ((aF L (Key.mk 2 (ae L g.pos).oid (ae L g.pos).count void.call void.rights void.value) 14).kind=6)&&decide (bd
  BinOp.and IntKind.i64 (bd BinOp.or IntKind.i64 g.rts (ae L g.pos).rights) 4=0))=false->jb (aF L (Key.mk 2 (ae L g.pos).oid (ae L g.pos).count void.call void.rights
  void.value) 15).value/\(nf (aX (aF L (Key.mk 2 (ae L g.pos).oid (ae L g.pos).count void.call void.rights void.value) 15).value)/\aG IntKind.i64 (g.adr.tdiv (aX (aF L
  (Key.mk 2 (ae L g.pos).oid (ae L g.pos).count void.call void.rights void.value) 15).value)))/\true=true/\((!decide (g.adr.tdiv (aX (aF L (Key.mk 2 (ae L g.pos).oid (ae L
  g.pos).count void.call void.rights void.value) 15).value)<14))=true->((!decide (2=0))=true->void=bV (ar L k a)/\0=bU (ar L k a)/\void=cO (ar L k a)/\0=c8 (ar L k a)
  /\2=en (ar L k a)/\g.kpr=fc (ar L k a)/\a=fe (ar L k a) a/\0=c9 L k a)/\((!decide (2=0))=false->ae L g.pos=bV (ar L k a)/\g.adr=bU (ar L k a)/\g.kpr=
  cO (ar L k a)/\g.dep=c8 (ar L k a)/\0=en (ar L k a)/\void=fc (ar L k a)/\0=fe (ar L k a) a/\0=c9 L k a))/\((!decide (g.adr.tdiv (aX (aF L (Key.mk 2 (ae
  L g.pos).oid (ae L g.pos).count void.call void.rights void.value) 15).value)<14))=false->aG IntKind.i64 (g.dep+1)/\(nf (aX (aF L (Key.mk 2 (ae L g.pos).oid (ae L
  g.pos).count void.call void.rights void.value) 15).value)/\aG IntKind.i64 (g.adr.tmod (aX (aF L (Key.mk 2 (ae L g.pos).oid (ae L g.pos).count void.call void.rights void.value)
  15).value)))/\∃g',mX L k a 0 g'/\oi g'<oi g/\L=L/\k=k/\void=void/\void=void/\void=void/\k=k/\aF L (ae L g.pos) (g.adr.tdiv (aX (aF L (Key.mk 2 (ae L
  g.pos).oid (ae L g.pos).count void.call void.rights void.value) 15).value))=g'.pos/\g.adr.tmod (aX (aF L (Key.mk 2 (ae L g.pos).oid (ae L g.pos).count void.call void.rights
  void.value) 15).value)=g'.adr/\bd BinOp.or IntKind.i64 g.rts (ae L g.pos).rights=g'.rts/\g.kpr=g'.kpr/\g.dep+1=g'.dep/\(aF L (Key.mk 2 (ae L g.pos).oid (ae L
  g.pos).count void.call void.rights void.value) 15).value=g'.hi/\false=false)))))/\(decide ((ae L g.pos).kind=2)=false->False)))))):=by
 refine⟨rfl,fun h=>yF (Wp h) (by omega),fun h=>⟨fun h2=>?_,fun h2=>⟨fun h3=>?_,fun h3=>⟨rfl,?_,fun g hI=>⟨rfl,?_⟩⟩⟩⟩⟩
 ·rw[At,Bool.not_eq_true']at h2;exact yF (by rw[RB h,h2];rfl) (by omega)
 ·rw[At,Bool.not_eq_false']at h2;exact yF (by rw[RB h,h2,Yv rfl,Yv (Ys h3)]) (by omega)
 ·refine⟨vQ k a 0,Wv (Yr h3) 0,?_⟩;repeat' apply And.intro
  all_goals rfl
 rw[At,Bool.not_eq_false']at h2;have hE:c9 L k a=0:=by rw[RB h,h2,Yv rfl,Yu (Yr h3)]
 clear h h2 h3;obtain⟨⟨a1,a2⟩,⟨r1,r2⟩,⟨d1,d2⟩,e1,e2,e3⟩:=id hI;refine⟨fun v=>⟨fun _=>?_,fun h=>absurd h (by decide)⟩,fun v=>⟨fun v3=>⟨rfl,rfl,fun b=>⟨fun _=>?_,fun h=>absurd h (by decide)⟩,fun b=>⟨fun ro=>?_,fun ro=>?_⟩⟩,fun v3=>⟨fun v2=>?_,fun v2=>?_⟩⟩⟩
 ·simp only[Bool.not_eq_true',Bool.or_eq_false_iff,decide_eq_false_iff_not]at v;exact pz hI hE (Fw d1 d2 v.1 v.2) (by omega)
 ·have v3:=Ys v3;exact pz hI hE (NT d1 d2 v3 (by simpa using b)) (by omega)
 ·have v3:=Ys v3;have hb:g.adr<64:=by simpa using b
  have hp:=g8 (oN L g.pos);have hm:eP (ae L g.pos).kind=1:=by rw[v3];rfl
  rw[Ow r1 r2]at ro;have ro:g.rts.tmod 4≠0:=by simpa using ro
  refine Gw hI hE ((wN d1 d2 v3 hb).trans ?_);rw[Dg hp.1 (by omega)]
  unfold nt;rw[Yu ro];rfl
 ·have v3:=Ys v3;have hb:g.adr<64:=by simpa using b
  rw[Ow r1 r2]at ro;have ro:g.rts.tmod 4=0:=by simpa using ro
  refine Gw hI hE ((wN d1 d2 v3 hb).trans ?_);unfold nt;rw[Yv ro]
 ·have v3:=Yr v3;have v2:=Ys v2;obtain⟨pe,pi⟩:=BE (.inl v2);have pi':aU L (ae L g.pos)=true:=by rw[pe];exact pi
  have hp:=nQ (oN L g.pos);have ho:=S2 r1 r2 hp.1 hp.2;rw[Nz (i:=15) pi' v2 (by omega) (by omega),Nz (i:=14) pi' v2 (by omega) (by omega),ho.1,XM ho.2.1 ho.2.2]
  refine⟨rfl,rfl,fun b=>⟨fun _=>?_,fun h=>absurd h (by decide)⟩,fun b=>⟨rfl,rfl,fun f=>⟨fun _=>?_,fun h=>absurd h (by decide)⟩,fun f=>⟨rfl,?_⟩⟩⟩
  ·exact pz hI hE (IZ d1 d2 v2 (by simpa using b)) (by omega)
  ·have b:g.dep<8:=by simpa using b
   exact pz hI hE (Gf d1 d2 v2 b (by unfold pn;rw[Bool.not_eq_true']at f;exact f)) (by omega)
  ·have b:g.dep<8:=by simpa using b
   have f:pn g (cL L (cM (ae L g.pos) 0) 15)=true:=by unfold pn;rw[Bool.not_eq_false']at f;exact f
   have hf':=uz.1 f;have he:=qH (show(cL L (cM (ae L g.pos) 0) 15).value<=9 by omega)
   have hd:=rh a1 he.1;have q1:jb (cL L (cM (ae L g.pos) 0) 15).value:=⟨by omega,by omega⟩
   have q2:nf (aX (cL L (cM (ae L g.pos) 0) 15).value):=by unfold nf;omega
   unfold bY at ha;have q3:aG IntKind.i64 (g.adr.tdiv (aX (cL L (cM (ae L g.pos) 0) 15).value)):=by simp only[aG,bY];omega
   have q4:aG IntKind.i64 (g.adr.tmod (aX (cL L (cM (ae L g.pos) 0) 15).value)):=by simp only[aG,bY];omega
   have q5:aG IntKind.i64 (g.dep+1):=by simp only[aG,bY];omega
   have kp:∀b,(decide ((cL L (cM (ae L g.pos) 0) 14).kind=6)&&decide (mJ g.rts (ae L g.pos).rights<4))=b->uC (mJ g.rts (ae L g.pos).rights) (cL L (cM (ae L g.pos) 0) 14) g.kpr=if b then cL L (cM (ae L g.pos) 0) 14 else g.kpr:=by
    intro b hb;unfold uC;cases b
    ·simp only[Bool.and_eq_false_iff,decide_eq_false_iff_not]at hb;rw[Yu (by omega)];rfl
    ·simp only[Yo,Yp]at hb;rw[Yv hb];rfl
   refine⟨fun c=>⟨q1,⟨q2,q3⟩,rfl,fun s=>⟨fun _=>?_,fun h=>absurd h (by decide)⟩,fun s=>⟨q5,⟨q2,q4⟩,Jo L g,?_⟩⟩,fun c=>⟨q1,⟨q2,q3⟩,rfl,fun s=>⟨fun _=>?_,fun h=>absurd h (by decide)⟩,fun s=>⟨q5,⟨q2,q4⟩,Jo L g,?_⟩⟩⟩
   ·exact pz hI hE ((Bh d1 d2 v2 b f (by simpa using s)).trans (by rw[kp _ c];rfl)) (by omega)
   ·have s:g.adr.tdiv (aX (cL L (cM (ae L g.pos) 0) 15).value)<14:=by simpa using s
    obtain⟨n1,n2⟩:=Np hI v2 b f s;rw[Et pi' v2 hd.1 (by omega)]
    refine⟨n1,n2,rfl,rfl,rfl,rfl,rfl,rfl,rfl,rfl,rfl,?_,rfl,rfl,rfl⟩;show _=uC _ _ _
    rw[kp _ c];rfl
   ·exact pz hI hE ((Bh d1 d2 v2 b f (by simpa using s)).trans (by rw[kp _ c];rfl)) (by omega)
   ·have s:g.adr.tdiv (aX (cL L (cM (ae L g.pos) 0) 15).value)<14:=by simpa using s
    obtain⟨n1,n2⟩:=Np hI v2 b f s;rw[Et pi' v2 hd.1 (by omega)]
    refine⟨n1,n2,rfl,rfl,rfl,rfl,rfl,rfl,rfl,rfl,rfl,?_,rfl,rfl,rfl⟩;show _=uC _ _ _
    rw[kp _ c];rfl
 ·simp only[Bool.not_eq_false',Bool.or_eq_true,Yp]at v;have v3:=Yr v3;have v2:=Yr v2;omega
theorem OU (L:List Sx.Obj) (k:Key) (a:Int) (ha:bY .i64 a):ai Tryz.prog 196 [.lp 0 0,.key k,.it .i64 a] [.ro (.store tS eS L)] (mG (CT L k a)) (fun _ _=>False):=
 aW (inl:=(fun f=>f==195||f==202||f==205||f==206||f==207||f==208)) (ann:=(iz [(202,2,RK [0,2] (fun _=> []) 0 (fun g=> .blk tW (X3 (.lp 0 0) g)) (mX L k a 0) oi)])) (ab Cl (ab bB (ab je (ab eY (ab lf (ab Gb (ab qW ak))))))) aC (eH FQ) (P4 L k a ha) (by kernel_rfl)
theorem F8:ck Tryz.prog 196 Us:=
 eO (aJ tR (aJ gR (aJ ft cF))) (fun _=>rfl) fun a hq hok=>by
  obtain⟨S,k,i,_⟩:=a;cases S with
  |none=>exact LA k i hok.2.2.1
  |some L=>exact OU L k i hok.2.2.1
theorem Ld (L:List Sx.Obj) (k:Key) (a:Int) (ha:bY .i64 a) (hL:aq L):
 (decide (b9 (aj L)=0)=true->void=bV (ar L k a)/\0=bU (ar L k a)/\void=cO (ar L k a)/\0=c8 (ar L k a)/\0=en (ar L k a)/\void=fc (ar L k a)/\0=fe
  (ar L k a) a/\1=c9 L k a)/\(decide (b9 (aj L)=0)=false->((!cZ L k)=true->void=bV (ar L k a)/\0=bU (ar L k a)/\void=cO (ar L k a)/\0=c8 (ar L k a)/\0=
  en (ar L k a)/\void=fc (ar L k a)/\0=fe (ar L k a) a/\2=c9 L k a)/\((!cZ L k)=false->(decide (a<0)=true->void=bV (ar L k a)/\0=bU (ar L k a)/\void=
  cO (ar L k a)/\0=c8 (ar L k a)/\0=en (ar L k a)/\void=fc (ar L k a)/\0=fe (ar L k a) a/\4=c9 L k a)/\(decide (a<0)=false->(∃g,mX L k a 99 g/\a=a/\a=
  g.adr/\0=g.rts/\99=g.hi/\0=g.dep/\L=L/\k=k/\void=void/\void=void/\void=void/\k=g.pos/\void=g.kpr)/\∀(g:Wk),mX L k a 99 g->(decide (g.dep<20)=true->((!aU L
  g.pos|| !decide (g.pos.kind=2)&& !decide (g.pos.kind=3))=true->void=bV (ar L k a)/\0=bU (ar L k a)/\void=cO (ar L k a)/\0=c8 (ar L k a)/\1=en (ar L k a)/\
  g.kpr=fc (ar L k a)/\a=fe (ar L k a) a/\0=c9 L k a)/\((!aU L g.pos|| !decide (g.pos.kind=2)&& !decide (g.pos.kind=3))=false->(decide (g.pos.kind=3)=true->(decide (63
  <g.adr)=true->void=bV (ar L k a)/\0=bU (ar L k a)/\void=cO (ar L k a)/\0=c8 (ar L k a)/\2=en (ar L k a)/\g.kpr=fc (ar L k a)/\a=fe (ar L k a) a/\0=
  c9 L k a)/\(decide (63<g.adr)=false->(nf 4/\aG IntKind.i64 (g.rts.tmod 4))/\((!decide (g.rts.tmod 4=0))=true->Key.mk g.pos.kind g.pos.oid g.pos.count g.pos.call 1 g.pos.value=bV
  (ar L k a)/\g.adr=bU (ar L k a)/\g.kpr=cO (ar L k a)/\g.dep=c8 (ar L k a)/\0=en (ar L k a)/\void=fc (ar L k a)/\0=fe (ar L k a) a/\0=c9 L k a)/\
  ((!decide (g.rts.tmod 4=0))=false->g.pos=bV (ar L k a)/\g.adr=bU (ar L k a)/\g.kpr=cO (ar L k a)/\g.dep=c8 (ar L k a)/\0=en (ar L k a)/\void=fc (ar L k a)
  /\0=fe (ar L k a) a/\0=c9 L k a)))/\(decide (g.pos.kind=3)=false->(decide (8<=g.dep)=true->void=bV (ar L k a)/\0=bU (ar L k a)/\void=cO (ar L k a)/\0=c8
  (ar L k a)/\3=en (ar L k a)/\g.kpr=fc (ar L k a)/\a=fe (ar L k a) a/\0=c9 L k a)/\(decide (8<=g.dep)=false->(∃g_1,jT g_1/\a=a/\g.adr=g.adr/\g.rts=fk
  g.rts g.pos.rights g_1/\g.hi=g.hi/\g.dep=g.dep/\1=g_1/\L=L/\k=k/\void=void/\void=void/\void=void/\g.pos=g.pos/\g.kpr=g.kpr/\g.kpr=g.kpr/\a=a)/\∀(g_1:Int),jT
  g_1->(decide (g_1<=4)=true->(nf g_1/\aG IntKind.i64 (g.pos.rights.tdiv g_1))/\(nf 2/\aG IntKind.i64 ((g.pos.rights.tdiv g_1).tmod 2))/\(decide ((g.pos.rights.tdiv g_1).tmod 2=1)=true
  ->nf g_1/\aG IntKind.i64 ((fk g.rts g.pos.rights g_1).tdiv g_1))/\(decide ((g.pos.rights.tdiv g_1).tmod 2=1)=true->nf 2/\aG IntKind.i64 (((fk g.rts g.pos.rights g_1).tdiv g_1).tmod
  2))/\((decide ((g.pos.rights.tdiv g_1).tmod 2=1)&&decide (((fk g.rts g.pos.rights g_1).tdiv g_1).tmod 2=0))=true->aG IntKind.i64 (fk g.rts g.pos.rights g_1+g_1)/\aG IntKind.i64
  (g_1*2)/\∃g',jT g'/\(8-g').toNat<(8-g_1).toNat/\a=a/\g.adr=g.adr/\fk g.rts g.pos.rights g_1+g_1=fk g.rts g.pos.rights g'/\g.hi=g.hi/\g.dep=g.dep/\g_1*2=g'/\
  L=L/\k=k/\void=void/\void=void/\void=void/\g.pos=g.pos/\g.kpr=g.kpr/\g.kpr=g.kpr/\a=a)/\((decide ((g.pos.rights.tdiv g_1).tmod 2=1)&&decide (((fk g.rts g.pos.rights
  g_1).tdiv g_1).tmod 2=0))=false->aG IntKind.i64 (g_1*2)/\∃g',jT g'/\(8-g').toNat<(8-g_1).toNat/\a=a/\g.adr=g.adr/\fk g.rts g.pos.rights g_1=fk g.rts g.pos.rights
  g'/\g.hi=g.hi/\g.dep=g.dep/\g_1*2=g'/\L=L/\k=k/\void=void/\void=void/\void=void/\g.pos=g.pos/\g.kpr=g.kpr/\g.kpr=g.kpr/\a=a))/\(decide (g_1<=4)=false->(0<=
  g.pos.oid/\g.pos.oid< ↑(aj L))/\g.pos.oid.toNat<aj L/\((!decide (((ah L g.pos.oid.toNat free).slots.at 15).kind=1)||decide (((ah L g.pos.oid.toNat free).slots.at 15).value<1)||
  decide (8<((ah L g.pos.oid.toNat free).slots.at 15).value)||decide (g.hi<=((ah L g.pos.oid.toNat free).slots.at 15).value))=true->void=bV (ar L k a)/\0=bU (ar L k a)/\void=
  cO (ar L k a)/\0=c8 (ar L k a)/\4=en (ar L k a)/\g.kpr=fc (ar L k a)/\a=fe (ar L k a) a/\0=c9 L k a)/\((!decide (((ah L g.pos.oid.toNat free).slots.at 15).kind=
  1)||decide (((ah L g.pos.oid.toNat free).slots.at 15).value<1)||decide (8<((ah L g.pos.oid.toNat free).slots.at 15).value)||decide (g.hi<=((ah L g.pos.oid.toNat free).slots.at
  15).value))=false->((decide ((ae L ((ah L g.pos.oid.toNat free).slots.at 14)).kind=6)&&decide (fk g.rts g.pos.rights g_1<4))=true->jb ((ah L g.pos.oid.toNat free).slots.at
  15).value/\(nf (aX ((ah L g.pos.oid.toNat free).slots.at 15).value)/\aG IntKind.i64 (g.adr.tdiv (aX ((ah L g.pos.oid.toNat free).slots.at 15).value)))/\(decide (13<g.adr.tdiv
  (aX ((ah L g.pos.oid.toNat free).slots.at 15).value))=true->void=bV (ar L k a)/\0=bU (ar L k a)/\void=cO (ar L k a)/\0=c8 (ar L k a)/\2=en (ar L k a)/\ae
  L ((ah L g.pos.oid.toNat free).slots.at 14)=fc (ar L k a)/\a=fe (ar L k a) a/\0=c9 L k a)/\(decide (13<g.adr.tdiv (aX ((ah L g.pos.oid.toNat free).slots.at 15).value))=
  false->jb ((ah L g.pos.oid.toNat free).slots.at 15).value/\(nf (aX ((ah L g.pos.oid.toNat free).slots.at 15).value)/\aG IntKind.i64 (g.adr.tmod (aX ((ah L g.pos.oid.toNat
  free).slots.at 15).value)))/\nb L g.pos (g.adr.tdiv (aX ((ah L g.pos.oid.toNat free).slots.at 15).value))/\aG IntKind.i64 (g.dep+1)/\∃g',mX L k a 99 g'/\oi g'<oi g/\a=a
  /\g.adr.tmod (aX ((ah L g.pos.oid.toNat free).slots.at 15).value)=g'.adr/\fk g.rts g.pos.rights g_1=g'.rts/\((ah L g.pos.oid.toNat free).slots.at 15).value=g'.hi/\g.dep+1=g'.dep
  /\L=L/\k=k/\void=void/\void=void/\void=void/\cL L g.pos (g.adr.tdiv (aX ((ah L g.pos.oid.toNat free).slots.at 15).value))=g'.pos/\ae L ((ah L g.pos.oid.toNat
  free).slots.at 14)=g'.kpr))/\((decide ((ae L ((ah L g.pos.oid.toNat free).slots.at 14)).kind=6)&&decide (fk g.rts g.pos.rights g_1<4))=false->jb ((ah L g.pos.oid.toNat
  free).slots.at 15).value/\(nf (aX ((ah L g.pos.oid.toNat free).slots.at 15).value)/\aG IntKind.i64 (g.adr.tdiv (aX ((ah L g.pos.oid.toNat free).slots.at 15).value)))/\(decide (13<
  g.adr.tdiv (aX ((ah L g.pos.oid.toNat free).slots.at 15).value))=true->void=bV (ar L k a)/\0=bU (ar L k a)/\void=cO (ar L k a)/\0=c8 (ar L k a)/\2=en (ar L k
  a)/\g.kpr=fc (ar L k a)/\a=fe (ar L k a) a/\0=c9 L k a)/\(decide (13<g.adr.tdiv (aX ((ah L g.pos.oid.toNat free).slots.at 15).value))=false->jb ((ah L
  g.pos.oid.toNat free).slots.at 15).value/\(nf (aX ((ah L g.pos.oid.toNat free).slots.at 15).value)/\aG IntKind.i64 (g.adr.tmod (aX ((ah L g.pos.oid.toNat free).slots.at 15).value)))/\
  nb L g.pos (g.adr.tdiv (aX ((ah L g.pos.oid.toNat free).slots.at 15).value))/\aG IntKind.i64 (g.dep+1)/\∃g',mX L k a 99 g'/\oi g'<oi g/\a=a/\g.adr.tmod (aX ((ah L
  g.pos.oid.toNat free).slots.at 15).value)=g'.adr/\fk g.rts g.pos.rights g_1=g'.rts/\((ah L g.pos.oid.toNat free).slots.at 15).value=g'.hi/\g.dep+1=g'.dep/\L=L/\k=k/\void=void
  /\void=void/\void=void/\cL L g.pos (g.adr.tdiv (aX ((ah L g.pos.oid.toNat free).slots.at 15).value))=g'.pos/\g.kpr=g'.kpr))))))))/\(decide (g.dep<20)=false->void=bV (ar
  L k a)/\0=bU (ar L k a)/\void=cO (ar L k a)/\0=c8 (ar L k a)/\0=en (ar L k a)/\void=fc (ar L k a)/\0=fe (ar L k a) a/\2=c9 L k a)))):=by
 refine⟨fun h=>yF (Wp h) (by omega),fun h=>⟨fun h2=>?_,fun h2=>⟨fun h3=>?_,fun h3=>⟨?_,fun g hI=>⟨fun _=>?_,fun hd=>?_⟩⟩⟩⟩⟩
 ·rw[Bool.not_eq_true']at h2;exact yF (by rw[RB h,h2];rfl) (by omega)
 ·rw[Bool.not_eq_false']at h2;exact yF (by rw[RB h,h2,Yv rfl,Yv (Ys h3)]) (by omega)
 ·refine⟨vQ k a 99,Wv (Yr h3) 99,?_⟩;repeat' apply And.intro
  all_goals rfl
 rotate_left
 ·have:=hI.2.2.1.2;have:=Yr hd;omega
 rw[Bool.not_eq_false']at h2;have hE:c9 L k a=0:=by rw[RB h,h2,Yv rfl,Yu (Yr h3)]
 clear h h2 h3;obtain⟨⟨a1,a2⟩,⟨r1,r2⟩,⟨d1,d2⟩,e1,e2,e3⟩:=id hI;refine⟨fun v=>?_,fun v=>?_⟩
 ·have hv:∀d:Int,d=2\/d=3->(ae L g.pos).kind≠d:=fun d hd hk=>by
   obtain⟨p1,p2⟩:=BE (L:=L) (k:=g.pos) (by rw[hk];exact hd)
   rw[p1]at hk;rw[p2,hk]at v;rcases hd with rfl|rfl<;>simp at v
  exact pz hI hE (Fw d1 d2 (hv 3 (.inr rfl)) (hv 2 (.inl rfl))) (by omega)
 simp only[Bool.or_eq_false_iff,Bool.not_eq_false',Bool.and_eq_false_iff,Yp]at v;obtain⟨vi,vk⟩:=v;have pe:ae L g.pos=g.pos:=Oe vi;have hall:=dC vi;have hp:=nQ hall.1;refine⟨fun v3=>⟨fun b=>?_,fun b=>⟨⟨by unfold nf;omega,?_⟩,fun ro=>?_,fun ro=>?_⟩⟩,fun v3=>⟨fun b=>?_,fun b=>⟨?_,fun i hi=>⟨fun hlt=>?_,fun hge=>?_⟩⟩⟩⟩
 ·have v3:=Ys v3;have b:=Ys b;exact pz hI hE (NT d1 d2 (by rw[pe];exact v3) (by omega)) (by omega)
 ·have h1:=Int.tmod_lt_of_pos g.rts (show(0:Int)<4 by omega)
  have h2:=Int.lt_tmod_of_pos g.rts (show(0:Int)<4 by omega)
  simp only[aG,bY];omega
 ·have v3:=Ys v3;have b:=Yr b;have ro:g.rts.tmod 4≠0:=by simpa using ro
  have:=wN d1 d2 (by rw[pe];exact v3) (by omega)
  rw[pe]at this;unfold nt at this;rw[Yu ro]at this;exact Gw hI hE this
 ·have v3:=Ys v3;have b:=Yr b;have ro:g.rts.tmod 4=0:=by simpa using ro
  have:=wN d1 d2 (by rw[pe];exact v3) (by omega)
  rw[pe]at this;unfold nt at this;rw[Yv ro]at this;exact Gw hI hE this
 ·have v3:=Yr v3;have b:=Ys b;exact pz hI hE (IZ d1 d2 (by rw[pe];omega) (by omega)) (by omega)
 ·refine⟨1,.inl rfl,?_⟩;have:=(WA (r:=g.rts) (m:=g.pos.rights)).symm;repeat' apply And.intro
  all_goals first|rfl|exact this
 ·have hlt:=Ys hlt;have hi3:i=1\/i=2\/i=4:=by unfold jT at hi;omega
  obtain⟨⟨o1,o2⟩,o3,o4⟩:=Wb r1 r2 hp.1 hp.2 hi3;have hne:nf i:=by unfold nf;omega
  have h2:nf 2:=by unfold nf;omega
  have hi4:i=1\/i=2\/i=4\/i=8:=hi;have hn:jT (i*2)/\(8-i*2).toNat<(8-i).toNat:=by unfold jT;omega
  have t1:aG IntKind.i64 (g.pos.rights.tdiv i):=sT (by simp only[bY];omega) hi4
  have t2:aG IntKind.i64 ((fk g.rts g.pos.rights i).tdiv i):=sT (by simp only[bY];omega) hi4
  refine⟨⟨hne,t1⟩,⟨h2,nV _⟩,fun _=>⟨hne,t2⟩,fun _=>⟨h2,nV _⟩,fun c=>⟨by simp only[aG,bY];omega,by simp only[aG,bY];omega,i*2,hn.1,hn.2,?_⟩,fun c=>⟨by simp only[aG,bY];omega,i*2,hn.1,hn.2,?_⟩⟩
  ·have:=o3 c;repeat' apply And.intro
   all_goals first|rfl|exact this
  ·have:=o4 c;repeat' apply And.intro
   all_goals first|rfl|exact this
 ·have hge:=Yr hge;have hi8:i=8:=by unfold jT at hi;omega
  subst hi8;have v3:=Yr v3;have b:=Yr b;have v2:g.pos.kind=2:=by omega
  have v2':(ae L g.pos).kind=2:=by rw[pe];exact v2
  have hsl:=(sk hL vi v2 15 (by omega)).1
  have hO:0<=mJ g.rts g.pos.rights/\mJ g.rts g.pos.rights<=7:=(S2 r1 r2 hp.1 hp.2).2;have hraw:=Pk (L:=L) hsl (by have:=hall.2.1;have:=hall.2.2.1;omega)
  have eG:∀j,cL L (cM (ae L g.pos) 0) j=ae L ((ah L g.pos.oid.toNat free).slots.at j.toNat):=fun j=>by rw[pe];rfl
  have e15:cL L (cM (ae L g.pos) 0) 15=ae L ((ah L g.pos.oid.toNat free).slots.at 15):=eG 15;have e14:cL L (cM (ae L g.pos) 0) 14=ae L ((ah L g.pos.oid.toNat free).slots.at 14):=eG 14;generalize hS:(ah L g.pos.oid.toNat free).slots.at 15=S at *
  refine⟨⟨hall.2.1,hall.2.2.1⟩,by have:=hall.2.1;have:=hall.2.2.1;unfold aj;omega,fun f=>?_,fun f=>?_⟩
  ·refine pz hI hE (Gf d1 d2 v2' (by omega) ?_) (by omega)
   rw[e15];rw[Bool.eq_false_iff,ne_eq,uz];rintro⟨f1,f2,f3,f4⟩
   have:ae L S=S:=hraw.1 (by by_cases hk:S.kind=1;exact hk;exact absurd f1 (hraw.2 hk))
   rw[this]at f1 f2 f3 f4;simp only[Bool.or_eq_true,Bool.not_eq_true',Yp,decide_eq_false_iff_not]at f;rcases f4 with f4|f4
   ·have:=e1 f4;omega
   ·omega
  ·simp only[Bool.or_eq_false_iff,Bool.not_eq_false',Yp,decide_eq_false_iff_not]at f;obtain⟨⟨⟨f1,f2⟩,f3⟩,f4⟩:=f;have eS:ae L S=S:=hraw.1 f1;rw[eS]at e15;have fh:pn g (cL L (cM (ae L g.pos) 0) 15)=true:=by rw[e15,uz];exact⟨f1,by omega,by omega,.inr (by omega)⟩
   have he:=qH (show S.value<=9 by omega)
   have hd:=rh a1 he.1;have q1:jb S.value:=⟨by omega,by omega⟩
   have q2:nf (aX S.value):=by unfold nf;omega
   unfold bY at ha;have q3:aG IntKind.i64 (g.adr.tdiv (aX S.value)):=by simp only[aG,bY];omega
   have q4:aG IntKind.i64 (g.adr.tmod (aX S.value)):=by simp only[aG,bY];omega
   have q5:aG IntKind.i64 (g.dep+1):=by simp only[aG,bY];omega
   have kp:∀b,(decide ((ae L ((ah L g.pos.oid.toNat free).slots.at 14)).kind=6)&&decide (fk g.rts g.pos.rights 8<4))=b->uC (mJ g.rts g.pos.rights) (ae L ((ah L g.pos.oid.toNat free).slots.at 14)) g.kpr=if b then ae L ((ah L g.pos.oid.toNat free).slots.at 14)else g.kpr:=by
    intro b hb;unfold uC mJ;cases b
    ·simp only[Bool.and_eq_false_iff,decide_eq_false_iff_not]at hb;rw[Yu (by omega)];rfl
    ·simp only[Yo,Yp]at hb;rw[Yv hb];rfl
   have gs:∀s:¬g.adr.tdiv (aX S.value)<14,hJ L (9-g.dep).toNat g=⟨2,void,0,uC (mJ g.rts g.pos.rights) (ae L ((ah L g.pos.oid.toNat free).slots.at 14)) g.kpr,0⟩:=fun s=>by
    have:=Bh d1 d2 v2' (by omega) fh (by rw[e15];exact s)
    rw[e14,pe]at this;exact this
   have gn:∀s:g.adr.tdiv (aX S.value)<14,mX L k a 99 ⟨cL L g.pos (g.adr.tdiv (aX S.value)),g.adr.tmod (aX S.value),mJ g.rts g.pos.rights,uC (mJ g.rts g.pos.rights) (ae L ((ah L g.pos.oid.toNat free).slots.at 14)) g.kpr,g.dep+1,S.value⟩/\
     oi ⟨cL L g.pos (g.adr.tdiv (aX S.value)),g.adr.tmod (aX S.value),mJ g.rts g.pos.rights,uC (mJ g.rts g.pos.rights) (ae L ((ah L g.pos.oid.toNat free).slots.at 14)) g.kpr,g.dep+1,S.value⟩<oi g:=fun s=>by
    have:=Np hI v2' (by omega) fh (by rw[e15];exact s)
    unfold Jo at this;rw[e15,e14,pe]at this;exact this
   refine⟨fun c=>⟨q1,⟨q2,q3⟩,fun s=>?_,fun s=>⟨q1,⟨q2,q4⟩,?_,q5,_,(gn ?_).1,(gn ?_).2,?_⟩⟩,fun c=>⟨q1,⟨q2,q3⟩,fun s=>?_,fun s=>⟨q1,⟨q2,q4⟩,?_,q5,_,(gn ?_).1,(gn ?_).2,?_⟩⟩⟩
   ·have s:=Ys s;exact pz hI hE ((gs (by omega)).trans (by rw[kp _ c];rfl)) (by omega)
   ·have s:=Yr s;exact⟨hd.1,by omega,hall.2.1,hall.2.2.1⟩
   ·have s:=Yr s;omega
   ·have s:=Yr s;omega
   ·have:=kp _ c;repeat' apply And.intro
    all_goals first|with_reducible rfl|exact this.symm|rfl
   ·have s:=Ys s;exact pz hI hE ((gs (by omega)).trans (by rw[kp _ c];rfl)) (by omega)
   ·have s:=Yr s;exact⟨hd.1,by omega,hall.2.1,hall.2.2.1⟩
   ·have s:=Yr s;omega
   ·have s:=Yr s;omega
   ·have:=kp _ c;repeat' apply And.intro
    all_goals first|with_reducible rfl|exact this.symm|rfl
theorem IV (L:List Sx.Obj) (k:Key) (a:Int) (ha:bY .i64 a) (hL:aq L):ai Tryz.prog 192 [.sa 0,.key k,.it .i64 a] [.ro (.arr none 163 (.ob L))] (mG (CT L k a)) (fun _ _=>False):=
 aV (inl:=bn) (ann:=(iz [(192,10,XT [0,2,4,6,7,8,9,13] (fun g=> [(10,.it .i64 g.adr),(11,.it .i64 g.rts),(12,.it .i64 g.hi),(14,.it .i64 g.dep)]) (fun g=> [(4,.blk tK (.key g.pos)),(5,.blk tK (.key g.kpr))]) (mX L k a 99) oi),(192,27,Xr [0,2,4,6,7,8,9,10,12,13,14,15] jT 8)])) (ab BT (ab mw (ab pC (ab II (ab wJ ak))))) (Ld L k a ha hL) (by kernel_rfl)
theorem It:ck Tryz.prog 192 P3:=
 eO (aJ ju (aJ gR (aJ ft cF))) (fun _=>rfl) fun a hq hok=>by
  obtain⟨L,k,i,_⟩:=a;exact IV L k i hok.2.2.1 hq
end Go.Proofs.YtghpaegglbbocaaGreat
