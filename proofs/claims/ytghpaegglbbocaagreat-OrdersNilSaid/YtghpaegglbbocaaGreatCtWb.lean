import Derived.Test.YtghpaegglbbocaaGreatCtWa
import Derived.Test.YtghpaegglbbocaaGreatCV
set_option linter.unusedSimpArgs false
set_option linter.unusedVariables false
namespace Go.Proofs.YtghpaegglbbocaaGreat
open Go.Sx
set_option maxRecDepth 100000
theorem LL:
 ∀(nid:Nat),some (V.mp nid)=some (V.mp nid)/\some [aI.mp IntKind.i64 [3,2] [V.fn 206 [],V.fn 207 []]]=some [aI.mp IntKind.i64 [3,2] [V.fn 206 [],V.fn 207 []]]:=by
 exact fun nid=>⟨rfl,rfl⟩
theorem Df:ck Tryz.prog 204 (DC X8 X2):=xC (π:= [0]) (by decide) (fun _=>rfl) (bn (inl:=bp) (ann:=aP) ak aC LL (by kernel_rfl))
theorem KR (k:Key) (a:Int) (ha:bY .i64 a):
 true=true/\(decide (an []=0)=true->void=bV (ar [] k a)/\0=bU (ar [] k a)/\void=cO (ar [] k a)/\0=c9 (ar [] k a)/\0=ej (ar [] k a)/\void=fe (ar [] k
  a)/\0=fc (ar [] k a) a/\1=c8 [] k a)/\(decide (an []=0)=false->((!decide (bD k=0)||bf k&&decide (an []<=cS k))=true->void=bV (ar [] k a)/\0=bU
  (ar [] k a)/\void=cO (ar [] k a)/\0=c9 (ar [] k a)/\0=ej (ar [] k a)/\void=fe (ar [] k a)/\0=fc (ar [] k a) a/\2=c8 [] k a)/\((!decide (bD k=0)||
  bf k&&decide (an []<=cS k))=false->(decide (a<0)=true->void=bV (ar [] k a)/\0=bU (ar [] k a)/\void=cO (ar [] k a)/\0=c9 (ar [] k a)/\0=ej (ar []
  k a)/\void=fe (ar [] k a)/\0=fc (ar [] k a) a/\4=c8 [] k a)/\(decide (a<0)=false->true=true/\(∃g,mY [] k a 0 g/\k=k/\void=void/\void=void/\void=void/\k=k
  /\Value.pointer none=Value.pointer none/\k=g.pos/\a=g.adr/\0=g.rts/\void=g.kpr/\0=g.dep/\0=g.hi/\false=false)/\∀(g:Wk),mY [] k a 0 g->true=true/\((!(decide ((ae []
  g.pos).kind=3)||decide ((ae [] g.pos).kind=2)))=true->((!decide (1=0))=true->void=bV (ar [] k a)/\0=bU (ar [] k a)/\void=cO (ar [] k a)/\0=c9 (ar [] k a)/\
  1=ej (ar [] k a)/\g.kpr=fe (ar [] k a)/\a=fc (ar [] k a) a/\0=c8 [] k a)/\((!decide (1=0))=false->ae [] g.pos=bV (ar [] k a)/\g.adr=bU (ar [] k a)/\
  g.kpr=cO (ar [] k a)/\g.dep=c9 (ar [] k a)/\0=ej (ar [] k a)/\void=fe (ar [] k a)/\0=fc (ar [] k a) a/\0=c8 [] k a))/\((!(decide ((ae [] g.pos).kind=3)||
  decide ((ae [] g.pos).kind=2)))=false->(decide ((ae [] g.pos).kind=3)=true->true=true/\true=true/\((!decide (g.adr<64))=true->((!decide (2=0))=true->void=bV (ar
  [] k a)/\0=bU (ar [] k a)/\void=cO (ar [] k a)/\0=c9 (ar [] k a)/\2=ej (ar [] k a)/\g.kpr=fe (ar [] k a)/\a=fc (ar [] k a) a/\0=c8 [] k a)/\((!decide (2
  =0))=false->ae [] g.pos=bV (ar [] k a)/\g.adr=bU (ar [] k a)/\g.kpr=cO (ar [] k a)/\g.dep=c9 (ar [] k a)/\0=ej (ar [] k a)/\void=fe (ar [] k a)/\0=
  fc (ar [] k a) a/\0=c8 [] k a))/\((!decide (g.adr<64))=false->((!decide (bc BinOp.and IntKind.i64 g.rts 3=0))=true->Key.mk (ae [] g.pos).kind (ae [] g.pos).oid (ae []
  g.pos).count (ae [] g.pos).call (bc BinOp.or IntKind.i64 (ae [] g.pos).rights 1) (ae [] g.pos).value=bV (ar [] k a)/\g.adr=bU (ar [] k a)/\g.kpr=cO (ar [] k a)/\
  g.dep=c9 (ar [] k a)/\0=ej (ar [] k a)/\void=fe (ar [] k a)/\0=fc (ar [] k a) a/\0=c8 [] k a)/\((!decide (bc BinOp.and IntKind.i64 g.rts 3=0))=false->ae []
  g.pos=bV (ar [] k a)/\g.adr=bU (ar [] k a)/\g.kpr=cO (ar [] k a)/\g.dep=c9 (ar [] k a)/\0=ej (ar [] k a)/\void=fe (ar [] k a)/\0=fc (ar [] k a) a/\0=
  c8 [] k a)))/\(decide ((ae [] g.pos).kind=3)=false->(decide ((ae [] g.pos).kind=2)=true->true=true/\true=true/\((!decide (g.dep<8))=true->((!decide (3=0))=true->
  void=bV (ar [] k a)/\0=bU (ar [] k a)/\void=cO (ar [] k a)/\0=c9 (ar [] k a)/\3=ej (ar [] k a)/\g.kpr=fe (ar [] k a)/\a=fc (ar [] k a) a/\0=c8 [] k
  a)/\((!decide (3=0))=false->ae [] g.pos=bV (ar [] k a)/\g.adr=bU (ar [] k a)/\g.kpr=cO (ar [] k a)/\g.dep=c9 (ar [] k a)/\0=ej (ar [] k a)/\void=fe
  (ar [] k a)/\0=fc (ar [] k a) a/\0=c8 [] k a))/\((!decide (g.dep<8))=false->true=true/\true=true/\((!(decide ((aF [] (Key.mk 2 (ae [] g.pos).oid (ae []
  g.pos).count void.call void.rights void.value) 15).kind=1)&&decide (1<=(aF [] (Key.mk 2 (ae [] g.pos).oid (ae [] g.pos).count void.call void.rights void.value) 15).value)&&decide
  ((aF [] (Key.mk 2 (ae [] g.pos).oid (ae [] g.pos).count void.call void.rights void.value) 15).value<=8)&&(decide (g.dep=0)||decide ((aF [] (Key.mk 2 (ae [] g.pos).oid (ae
  [] g.pos).count void.call void.rights void.value) 15).value<g.hi))))=true->((!decide (4=0))=true->void=bV (ar [] k a)/\0=bU (ar [] k a)/\void=cO (ar [] k a)/\0=c9
  (ar [] k a)/\4=ej (ar [] k a)/\g.kpr=fe (ar [] k a)/\a=fc (ar [] k a) a/\0=c8 [] k a)/\((!decide (4=0))=false->ae [] g.pos=bV (ar [] k a)/\g.adr=bU
  (ar [] k a)/\g.kpr=cO (ar [] k a)/\g.dep=c9 (ar [] k a)/\0=ej (ar [] k a)/\void=fe (ar [] k a)/\0=fc (ar [] k a) a/\0=c8 [] k a))/\((!(decide ((aF []
  (Key.mk 2 (ae [] g.pos).oid (ae [] g.pos).count void.call void.rights void.value) 15).kind=1)&&decide (1<=(aF [] (Key.mk 2 (ae [] g.pos).oid (ae [] g.pos).count void.call
  void.rights void.value) 15).value)&&decide ((aF [] (Key.mk 2 (ae [] g.pos).oid (ae [] g.pos).count void.call void.rights void.value) 15).value<=8)&&(decide (g.dep=0)||decide
  ((aF [] (Key.mk 2 (ae [] g.pos).oid (ae [] g.pos).count void.call void.rights void.value) 15).value<g.hi))))=false->true=true/\((decide ((aF [] (Key.mk 2 (ae [] g.pos).oid
  (ae [] g.pos).count void.call void.rights void.value) 14).kind=6)&&decide (bc BinOp.and IntKind.i64 (bc BinOp.or IntKind.i64 g.rts (ae [] g.pos).rights) 4=0))=true->ja
  (aF [] (Key.mk 2 (ae [] g.pos).oid (ae [] g.pos).count void.call void.rights void.value) 15).value/\(ng (aX (aF [] (Key.mk 2 (ae [] g.pos).oid (ae [] g.pos).count
  void.call void.rights void.value) 15).value)/\aG IntKind.i64 (g.adr.tdiv (aX (aF [] (Key.mk 2 (ae [] g.pos).oid (ae [] g.pos).count void.call void.rights void.value) 15).value)))/\
  true=true/\((!decide (g.adr.tdiv (aX (aF [] (Key.mk 2 (ae [] g.pos).oid (ae [] g.pos).count void.call void.rights void.value) 15).value)<14))=true->((!decide (2=0))=true->
  void=bV (ar [] k a)/\0=bU (ar [] k a)/\void=cO (ar [] k a)/\0=c9 (ar [] k a)/\2=ej (ar [] k a)/\aF [] (Key.mk 2 (ae [] g.pos).oid (ae [] g.pos).count
  void.call void.rights void.value) 14=fe (ar [] k a)/\a=fc (ar [] k a) a/\0=c8 [] k a)/\((!decide (2=0))=false->ae [] g.pos=bV (ar [] k a)/\g.adr=bU (ar [] k a)
  /\aF [] (Key.mk 2 (ae [] g.pos).oid (ae [] g.pos).count void.call void.rights void.value) 14=cO (ar [] k a)/\g.dep=c9 (ar [] k a)/\0=ej (ar [] k a)/\void=fe (ar
  [] k a)/\0=fc (ar [] k a) a/\0=c8 [] k a))/\((!decide (g.adr.tdiv (aX (aF [] (Key.mk 2 (ae [] g.pos).oid (ae [] g.pos).count void.call void.rights void.value) 15).value)<
  14))=false->aG IntKind.i64 (g.dep+1)/\(ng (aX (aF [] (Key.mk 2 (ae [] g.pos).oid (ae [] g.pos).count void.call void.rights void.value) 15).value)/\aG IntKind.i64 (g.adr.tmod
  (aX (aF [] (Key.mk 2 (ae [] g.pos).oid (ae [] g.pos).count void.call void.rights void.value) 15).value)))/\∃g',mY [] k a 0 g'/\nX g'<nX g/\k=k/\void=void/\void=void
  /\void=void/\k=k/\Value.pointer none=Value.pointer none/\aF [] (ae [] g.pos) (g.adr.tdiv (aX (aF [] (Key.mk 2 (ae [] g.pos).oid (ae [] g.pos).count void.call
  void.rights void.value) 15).value))=g'.pos/\g.adr.tmod (aX (aF [] (Key.mk 2 (ae [] g.pos).oid (ae [] g.pos).count void.call void.rights void.value) 15).value)=g'.adr/\bc
  BinOp.or IntKind.i64 g.rts (ae [] g.pos).rights=g'.rts/\aF [] (Key.mk 2 (ae [] g.pos).oid (ae [] g.pos).count void.call void.rights void.value) 14=g'.kpr/\g.dep+1=g'.dep/\
  (aF [] (Key.mk 2 (ae [] g.pos).oid (ae [] g.pos).count void.call void.rights void.value) 15).value=g'.hi/\false=false))/\((decide ((aF [] (Key.mk 2 (ae [] g.pos).oid (ae
  [] g.pos).count void.call void.rights void.value) 14).kind=6)&&decide (bc BinOp.and IntKind.i64 (bc BinOp.or IntKind.i64 g.rts (ae [] g.pos).rights) 4=0))=false->ja (aF []
  (Key.mk 2 (ae [] g.pos).oid (ae [] g.pos).count void.call void.rights void.value) 15).value/\(ng (aX (aF [] (Key.mk 2 (ae [] g.pos).oid (ae [] g.pos).count void.call
  void.rights void.value) 15).value)/\aG IntKind.i64 (g.adr.tdiv (aX (aF [] (Key.mk 2 (ae [] g.pos).oid (ae [] g.pos).count void.call void.rights void.value) 15).value)))/\true=true
  /\((!decide (g.adr.tdiv (aX (aF [] (Key.mk 2 (ae [] g.pos).oid (ae [] g.pos).count void.call void.rights void.value) 15).value)<14))=true->((!decide (2=0))=true->void=bV
  (ar [] k a)/\0=bU (ar [] k a)/\void=cO (ar [] k a)/\0=c9 (ar [] k a)/\2=ej (ar [] k a)/\g.kpr=fe (ar [] k a)/\a=fc (ar [] k a) a/\0=c8 [] k a)/\
  ((!decide (2=0))=false->ae [] g.pos=bV (ar [] k a)/\g.adr=bU (ar [] k a)/\g.kpr=cO (ar [] k a)/\g.dep=c9 (ar [] k a)/\0=ej (ar [] k a)/\void=fe (ar []
  k a)/\0=fc (ar [] k a) a/\0=c8 [] k a))/\((!decide (g.adr.tdiv (aX (aF [] (Key.mk 2 (ae [] g.pos).oid (ae [] g.pos).count void.call void.rights void.value) 15).value)<
  14))=false->aG IntKind.i64 (g.dep+1)/\(ng (aX (aF [] (Key.mk 2 (ae [] g.pos).oid (ae [] g.pos).count void.call void.rights void.value) 15).value)/\aG IntKind.i64 (g.adr.tmod
  (aX (aF [] (Key.mk 2 (ae [] g.pos).oid (ae [] g.pos).count void.call void.rights void.value) 15).value)))/\∃g',mY [] k a 0 g'/\nX g'<nX g/\k=k/\void=void/\void=void
  /\void=void/\k=k/\Value.pointer none=Value.pointer none/\aF [] (ae [] g.pos) (g.adr.tdiv (aX (aF [] (Key.mk 2 (ae [] g.pos).oid (ae [] g.pos).count void.call
  void.rights void.value) 15).value))=g'.pos/\g.adr.tmod (aX (aF [] (Key.mk 2 (ae [] g.pos).oid (ae [] g.pos).count void.call void.rights void.value) 15).value)=g'.adr/\bc
  BinOp.or IntKind.i64 g.rts (ae [] g.pos).rights=g'.rts/\g.kpr=g'.kpr/\g.dep+1=g'.dep/\(aF [] (Key.mk 2 (ae [] g.pos).oid (ae [] g.pos).count void.call void.rights void.value)
  15).value=g'.hi/\false=false)))))/\(decide ((ae [] g.pos).kind=2)=false->False)))))):=by
 refine⟨rfl,fun h=>xp (Vk h) (by omega),fun h=>absurd h (by decide)⟩
theorem K7 (k:Key) (a:Int) (ha:bY .i64 a):ai Tryz.prog 196 [lh,.key k,.it .i64 a] [] (mn (Dq [] k a)) (fun _ _=>False):=
 aW (inl:=(fun f=>f==195||f==202||f==205||f==206||f==207||f==208)) (ann:=(iy [(202,2,RV [0,2] (fun _=> []) 0 (fun g=> .blk tW (XQ (lh) g)) (mY [] k a 0) nX)])) (ab Df (ab bC (ab jj (ab eY (ab lf (ab Gk (ab qQ ak))))))) aC (eH E8) (KR k a ha) (by kernel_rfl)
theorem Q6 (L:List Sx.Obj) (k:Key) (a:Int) (ha:bY .i64 a):
 true=true/\(decide (an L=0)=true->void=bV (ar L k a)/\0=bU (ar L k a)/\void=cO (ar L k a)/\0=c9 (ar L k a)/\0=ej (ar L k a)/\void=fe (ar L k a)/\0
  =fc (ar L k a) a/\1=c8 L k a)/\(decide (an L=0)=false->((!decide (bD k=0)||bf k&&decide (an L<=cS k))=true->void=bV (ar L k a)/\0=bU (ar L k a)
  /\void=cO (ar L k a)/\0=c9 (ar L k a)/\0=ej (ar L k a)/\void=fe (ar L k a)/\0=fc (ar L k a) a/\2=c8 L k a)/\((!decide (bD k=0)||bf k&&decide
  (an L<=cS k))=false->(decide (a<0)=true->void=bV (ar L k a)/\0=bU (ar L k a)/\void=cO (ar L k a)/\0=c9 (ar L k a)/\0=ej (ar L k a)/\void=fe (ar
  L k a)/\0=fc (ar L k a) a/\4=c8 L k a)/\(decide (a<0)=false->true=true/\(∃g,mY L k a 0 g/\L=L/\k=k/\void=void/\void=void/\void=void/\k=k/\k=g.pos/\a=
  g.adr/\0=g.rts/\void=g.kpr/\0=g.dep/\0=g.hi/\false=false)/\∀(g:Wk),mY L k a 0 g->true=true/\((!(decide ((ae L g.pos).kind=3)||decide ((ae L g.pos).kind=2)))=
  true->((!decide (1=0))=true->void=bV (ar L k a)/\0=bU (ar L k a)/\void=cO (ar L k a)/\0=c9 (ar L k a)/\1=ej (ar L k a)/\g.kpr=fe (ar L k a)/\a=fc
  (ar L k a) a/\0=c8 L k a)/\((!decide (1=0))=false->ae L g.pos=bV (ar L k a)/\g.adr=bU (ar L k a)/\g.kpr=cO (ar L k a)/\g.dep=c9 (ar L k a)/\0=ej (ar L
  k a)/\void=fe (ar L k a)/\0=fc (ar L k a) a/\0=c8 L k a))/\((!(decide ((ae L g.pos).kind=3)||decide ((ae L g.pos).kind=2)))=false->(decide ((ae L g.pos).kind=
  3)=true->true=true/\true=true/\((!decide (g.adr<64))=true->((!decide (2=0))=true->void=bV (ar L k a)/\0=bU (ar L k a)/\void=cO (ar L k a)/\0=c9 (ar L k a)
  /\2=ej (ar L k a)/\g.kpr=fe (ar L k a)/\a=fc (ar L k a) a/\0=c8 L k a)/\((!decide (2=0))=false->ae L g.pos=bV (ar L k a)/\g.adr=bU (ar L k a)/\g.kpr=
  cO (ar L k a)/\g.dep=c9 (ar L k a)/\0=ej (ar L k a)/\void=fe (ar L k a)/\0=fc (ar L k a) a/\0=c8 L k a))/\((!decide (g.adr<64))=false->((!decide (bc
  BinOp.and IntKind.i64 g.rts 3=0))=true->Key.mk (ae L g.pos).kind (ae L g.pos).oid (ae L g.pos).count (ae L g.pos).call (bc BinOp.or IntKind.i64 (ae L g.pos).rights 1)
  (ae L g.pos).value=bV (ar L k a)/\g.adr=bU (ar L k a)/\g.kpr=cO (ar L k a)/\g.dep=c9 (ar L k a)/\0=ej (ar L k a)/\void=fe (ar L k a)/\0=fc (ar L k a)
  a/\0=c8 L k a)/\((!decide (bc BinOp.and IntKind.i64 g.rts 3=0))=false->ae L g.pos=bV (ar L k a)/\g.adr=bU (ar L k a)/\g.kpr=cO (ar L k a)/\g.dep=c9 (ar L k
  a)/\0=ej (ar L k a)/\void=fe (ar L k a)/\0=fc (ar L k a) a/\0=c8 L k a)))/\(decide ((ae L g.pos).kind=3)=false->(decide ((ae L g.pos).kind=2)=true->true=
  true/\true=true/\((!decide (g.dep<8))=true->((!decide (3=0))=true->void=bV (ar L k a)/\0=bU (ar L k a)/\void=cO (ar L k a)/\0=c9 (ar L k a)/\3=ej (ar L k
  a)/\g.kpr=fe (ar L k a)/\a=fc (ar L k a) a/\0=c8 L k a)/\((!decide (3=0))=false->ae L g.pos=bV (ar L k a)/\g.adr=bU (ar L k a)/\g.kpr=cO (ar L k a)/\
  g.dep=c9 (ar L k a)/\0=ej (ar L k a)/\void=fe (ar L k a)/\0=fc (ar L k a) a/\0=c8 L k a))/\((!decide (g.dep<8))=false->true=true/\true=true/\((!(decide
  ((aF L (Key.mk 2 (ae L g.pos).oid (ae L g.pos).count void.call void.rights void.value) 15).kind=1)&&decide (1<=(aF L (Key.mk 2 (ae L g.pos).oid (ae L g.pos).count void.call
  void.rights void.value) 15).value)&&decide ((aF L (Key.mk 2 (ae L g.pos).oid (ae L g.pos).count void.call void.rights void.value) 15).value<=8)&&(decide (g.dep=0)||decide ((aF
  L (Key.mk 2 (ae L g.pos).oid (ae L g.pos).count void.call void.rights void.value) 15).value<g.hi))))=true->((!decide (4=0))=true->void=bV (ar L k a)/\0=bU (ar L k a)/\
  void=cO (ar L k a)/\0=c9 (ar L k a)/\4=ej (ar L k a)/\g.kpr=fe (ar L k a)/\a=fc (ar L k a) a/\0=c8 L k a)/\((!decide (4=0))=false->ae L g.pos=bV
  (ar L k a)/\g.adr=bU (ar L k a)/\g.kpr=cO (ar L k a)/\g.dep=c9 (ar L k a)/\0=ej (ar L k a)/\void=fe (ar L k a)/\0=fc (ar L k a) a/\0=c8 L k a))/\
  ((!(decide ((aF L (Key.mk 2 (ae L g.pos).oid (ae L g.pos).count void.call void.rights void.value) 15).kind=1)&&decide (1<=(aF L (Key.mk 2 (ae L g.pos).oid (ae L
  g.pos).count void.call void.rights void.value) 15).value)&&decide ((aF L (Key.mk 2 (ae L g.pos).oid (ae L g.pos).count void.call void.rights void.value) 15).value<=8)&&(decide (g.dep=
  0)||decide ((aF L (Key.mk 2 (ae L g.pos).oid (ae L g.pos).count void.call void.rights void.value) 15).value<g.hi))))=false->true=true/\((decide ((aF L (Key.mk 2 (ae L
  g.pos).oid (ae L g.pos).count void.call void.rights void.value) 14).kind=6)&&decide (bc BinOp.and IntKind.i64 (bc BinOp.or IntKind.i64 g.rts (ae L g.pos).rights) 4=0))=true->
  ja (aF L (Key.mk 2 (ae L g.pos).oid (ae L g.pos).count void.call void.rights void.value) 15).value/\(ng (aX (aF L (Key.mk 2 (ae L g.pos).oid (ae L g.pos).count
  void.call void.rights void.value) 15).value)/\aG IntKind.i64 (g.adr.tdiv (aX (aF L (Key.mk 2 (ae L g.pos).oid (ae L g.pos).count void.call void.rights void.value) 15).value)))/\true
  =true/\((!decide (g.adr.tdiv (aX (aF L (Key.mk 2 (ae L g.pos).oid (ae L g.pos).count void.call void.rights void.value) 15).value)<14))=true->((!decide (2=0))=true->void=
  bV (ar L k a)/\0=bU (ar L k a)/\void=cO (ar L k a)/\0=c9 (ar L k a)/\2=ej (ar L k a)/\aF L (Key.mk 2 (ae L g.pos).oid (ae L g.pos).count void.call
  void.rights void.value) 14=fe (ar L k a)/\a=fc (ar L k a) a/\0=c8 L k a)/\((!decide (2=0))=false->ae L g.pos=bV (ar L k a)/\g.adr=bU (ar L k a)/\aF L
  (Key.mk 2 (ae L g.pos).oid (ae L g.pos).count void.call void.rights void.value) 14=cO (ar L k a)/\g.dep=c9 (ar L k a)/\0=ej (ar L k a)/\void=fe (ar L k a)/\0=fc
  (ar L k a) a/\0=c8 L k a))/\((!decide (g.adr.tdiv (aX (aF L (Key.mk 2 (ae L g.pos).oid (ae L g.pos).count void.call void.rights void.value) 15).value)<14))=false->aG
  IntKind.i64 (g.dep+1)/\(ng (aX (aF L (Key.mk 2 (ae L g.pos).oid (ae L g.pos).count void.call void.rights void.value) 15).value)/\aG IntKind.i64 (g.adr.tmod (aX (aF L
  (Key.mk 2 (ae L g.pos).oid (ae L g.pos).count void.call void.rights void.value) 15).value)))/\∃g',mY L k a 0 g'/\nX g'<nX g/\L=L/\k=k/\void=void/\void=void/\void=void
  /\k=k/\aF L (ae L g.pos) (g.adr.tdiv (aX (aF L (Key.mk 2 (ae L g.pos).oid (ae L g.pos).count void.call void.rights void.value) 15).value))=g'.pos/\g.adr.tmod (aX
  (aF L (Key.mk 2 (ae L g.pos).oid (ae L g.pos).count void.call void.rights void.value) 15).value)=g'.adr/\bc BinOp.or IntKind.i64 g.rts (ae L g.pos).rights=g'.rts/\aF L
  (Key.mk 2 (ae L g.pos).oid (ae L g.pos).count void.call void.rights void.value) 14=g'.kpr/\g.dep+1=g'.dep/\(aF L (Key.mk 2 (ae L g.pos).oid (ae L g.pos).count void.call
  void.rights void.value) 15).value=g'.hi/\false=false))/\((decide ((aF L (Key.mk 2 (ae L g.pos).oid (ae L g.pos).count void.call void.rights void.value) 14).kind=6)&&decide (bc
  BinOp.and IntKind.i64 (bc BinOp.or IntKind.i64 g.rts (ae L g.pos).rights) 4=0))=false->ja (aF L (Key.mk 2 (ae L g.pos).oid (ae L g.pos).count void.call void.rights
  void.value) 15).value/\(ng (aX (aF L (Key.mk 2 (ae L g.pos).oid (ae L g.pos).count void.call void.rights void.value) 15).value)/\aG IntKind.i64 (g.adr.tdiv (aX (aF L
  (Key.mk 2 (ae L g.pos).oid (ae L g.pos).count void.call void.rights void.value) 15).value)))/\true=true/\((!decide (g.adr.tdiv (aX (aF L (Key.mk 2 (ae L g.pos).oid (ae L
  g.pos).count void.call void.rights void.value) 15).value)<14))=true->((!decide (2=0))=true->void=bV (ar L k a)/\0=bU (ar L k a)/\void=cO (ar L k a)/\0=c9 (ar L k a)
  /\2=ej (ar L k a)/\g.kpr=fe (ar L k a)/\a=fc (ar L k a) a/\0=c8 L k a)/\((!decide (2=0))=false->ae L g.pos=bV (ar L k a)/\g.adr=bU (ar L k a)/\g.kpr=
  cO (ar L k a)/\g.dep=c9 (ar L k a)/\0=ej (ar L k a)/\void=fe (ar L k a)/\0=fc (ar L k a) a/\0=c8 L k a))/\((!decide (g.adr.tdiv (aX (aF L (Key.mk 2 (ae
  L g.pos).oid (ae L g.pos).count void.call void.rights void.value) 15).value)<14))=false->aG IntKind.i64 (g.dep+1)/\(ng (aX (aF L (Key.mk 2 (ae L g.pos).oid (ae L
  g.pos).count void.call void.rights void.value) 15).value)/\aG IntKind.i64 (g.adr.tmod (aX (aF L (Key.mk 2 (ae L g.pos).oid (ae L g.pos).count void.call void.rights void.value)
  15).value)))/\∃g',mY L k a 0 g'/\nX g'<nX g/\L=L/\k=k/\void=void/\void=void/\void=void/\k=k/\aF L (ae L g.pos) (g.adr.tdiv (aX (aF L (Key.mk 2 (ae L
  g.pos).oid (ae L g.pos).count void.call void.rights void.value) 15).value))=g'.pos/\g.adr.tmod (aX (aF L (Key.mk 2 (ae L g.pos).oid (ae L g.pos).count void.call void.rights
  void.value) 15).value)=g'.adr/\bc BinOp.or IntKind.i64 g.rts (ae L g.pos).rights=g'.rts/\g.kpr=g'.kpr/\g.dep+1=g'.dep/\(aF L (Key.mk 2 (ae L g.pos).oid (ae L
  g.pos).count void.call void.rights void.value) 15).value=g'.hi/\false=false)))))/\(decide ((ae L g.pos).kind=2)=false->False)))))):=by
 refine⟨rfl,fun h=>xp (Vk h) (by omega),fun h=>⟨fun h2=>?_,fun h2=>⟨fun h3=>?_,fun h3=>⟨rfl,?_,fun g hI=>⟨rfl,?_⟩⟩⟩⟩⟩
 ·rw[zS,Bool.not_eq_true']at h2;exact xp (by rw[OO h,h2];rfl) (by omega)
 ·rw[zS,Bool.not_eq_false']at h2;exact xp (by rw[OO h,h2,Yq rfl,Yq (Yn h3)]) (by omega)
 ·refine⟨vX k a 0,VH (Ym h3) 0,?_⟩;repeat' apply And.intro
  all_goals rfl
 rw[zS,Bool.not_eq_false']at h2;have hE:c8 L k a=0:=by rw[OO h,h2,Yq rfl,Yp (Ym h3)]
 clear h h2 h3;obtain⟨⟨a1,a2⟩,⟨r1,r2⟩,⟨d1,d2⟩,e1,e2,e3⟩:=id hI;refine⟨fun v=>⟨fun _=>?_,fun h=>absurd h (by decide)⟩,fun v=>⟨fun v3=>⟨rfl,rfl,fun b=>⟨fun _=>?_,fun h=>absurd h (by decide)⟩,fun b=>⟨fun ro=>?_,fun ro=>?_⟩⟩,fun v3=>⟨fun v2=>?_,fun v2=>?_⟩⟩⟩
 ·simp only[Bool.not_eq_true',Bool.or_eq_false_iff,decide_eq_false_iff_not]at v;exact pq hI hE (Fx d1 d2 v.1 v.2) (by omega)
 ·have v3:=Yn v3;exact pq hI hE (Jf d1 d2 v3 (by simpa using b)) (by omega)
 ·have v3:=Yn v3;have hb:g.adr<64:=by simpa using b
  have hp:=gS (oR L g.pos);have hm:eK (ae L g.pos).kind=1:=by rw[v3];rfl
  rw[Ok r1 r2]at ro;have ro:g.rts.tmod 4≠0:=by simpa using ro
  refine Ga hI hE ((wg d1 d2 v3 hb).trans ?_);rw[Dj hp.1 (by omega)]
  unfold nu;rw[Yp ro];rfl
 ·have v3:=Yn v3;have hb:g.adr<64:=by simpa using b
  rw[Ok r1 r2]at ro;have ro:g.rts.tmod 4=0:=by simpa using ro
  refine Ga hI hE ((wg d1 d2 v3 hb).trans ?_);unfold nu;rw[Yq ro]
 ·have v3:=Ym v3;have v2:=Yn v2;obtain⟨pe,pi⟩:=Bz (.inl v2);have pi':aU L (ae L g.pos)=true:=by rw[pe];exact pi
  have hp:=n9 (oR L g.pos);have ho:=Te r1 r2 hp.1 hp.2;rw[Ka (i:=15) pi' v2 (by omega) (by omega),Ka (i:=14) pi' v2 (by omega) (by omega),ho.1,XB ho.2.1 ho.2.2]
  refine⟨rfl,rfl,fun b=>⟨fun _=>?_,fun h=>absurd h (by decide)⟩,fun b=>⟨rfl,rfl,fun f=>⟨fun _=>?_,fun h=>absurd h (by decide)⟩,fun f=>⟨rfl,?_⟩⟩⟩
  ·exact pq hI hE (Nk d1 d2 v2 (by simpa using b)) (by omega)
  ·have b:g.dep<8:=by simpa using b
   exact pq hI hE (Gu d1 d2 v2 b (by unfold pf;rw[Bool.not_eq_true']at f;exact f)) (by omega)
  ·have b:g.dep<8:=by simpa using b
   have f:pf g (cN L (cJ (ae L g.pos) 0) 15)=true:=by unfold pf;rw[Bool.not_eq_false']at f;exact f
   have hf':=uu.1 f;have he:=qD (show(cN L (cJ (ae L g.pos) 0) 15).value<=9 by omega)
   have hd:=qE a1 he.1;have q1:ja (cN L (cJ (ae L g.pos) 0) 15).value:=⟨by omega,by omega⟩
   have q2:ng (aX (cN L (cJ (ae L g.pos) 0) 15).value):=by unfold ng;omega
   unfold bY at ha;have q3:aG IntKind.i64 (g.adr.tdiv (aX (cN L (cJ (ae L g.pos) 0) 15).value)):=by simp only[aG,bY];omega
   have q4:aG IntKind.i64 (g.adr.tmod (aX (cN L (cJ (ae L g.pos) 0) 15).value)):=by simp only[aG,bY];omega
   have q5:aG IntKind.i64 (g.dep+1):=by simp only[aG,bY];omega
   have kp:∀b,(decide ((cN L (cJ (ae L g.pos) 0) 14).kind=6)&&decide (mL g.rts (ae L g.pos).rights<4))=b->u7 (mL g.rts (ae L g.pos).rights) (cN L (cJ (ae L g.pos) 0) 14) g.kpr=if b then cN L (cJ (ae L g.pos) 0) 14 else g.kpr:=by
    intro b hb;unfold u7;cases b
    ·simp only[Bool.and_eq_false_iff,decide_eq_false_iff_not]at hb;rw[Yp (by omega)];rfl
    ·simp only[Yj,Yk]at hb;rw[Yq hb];rfl
   refine⟨fun c=>⟨q1,⟨q2,q3⟩,rfl,fun s=>⟨fun _=>?_,fun h=>absurd h (by decide)⟩,fun s=>⟨q5,⟨q2,q4⟩,Jw L g,?_⟩⟩,fun c=>⟨q1,⟨q2,q3⟩,rfl,fun s=>⟨fun _=>?_,fun h=>absurd h (by decide)⟩,fun s=>⟨q5,⟨q2,q4⟩,Jw L g,?_⟩⟩⟩
   ·exact pq hI hE ((BO d1 d2 v2 b f (by simpa using s)).trans (by rw[kp _ c];rfl)) (by omega)
   ·have s:g.adr.tdiv (aX (cN L (cJ (ae L g.pos) 0) 15).value)<14:=by simpa using s
    obtain⟨n1,n2⟩:=KK hI v2 b f s;rw[DS pi' v2 hd.1 (by omega)]
    refine⟨n1,n2,rfl,rfl,rfl,rfl,rfl,rfl,rfl,rfl,rfl,?_,rfl,rfl,rfl⟩;show _=u7 _ _ _
    rw[kp _ c];rfl
   ·exact pq hI hE ((BO d1 d2 v2 b f (by simpa using s)).trans (by rw[kp _ c];rfl)) (by omega)
   ·have s:g.adr.tdiv (aX (cN L (cJ (ae L g.pos) 0) 15).value)<14:=by simpa using s
    obtain⟨n1,n2⟩:=KK hI v2 b f s;rw[DS pi' v2 hd.1 (by omega)]
    refine⟨n1,n2,rfl,rfl,rfl,rfl,rfl,rfl,rfl,rfl,rfl,?_,rfl,rfl,rfl⟩;show _=u7 _ _ _
    rw[kp _ c];rfl
 ·simp only[Bool.not_eq_false',Bool.or_eq_true,Yk]at v;have v3:=Ym v3;have v2:=Ym v2;omega
theorem RA (L:List Sx.Obj) (k:Key) (a:Int) (ha:bY .i64 a):ai Tryz.prog 196 [.lp 0 0,.key k,.it .i64 a] [.ro (.store tS eS L)] (mn (Dq L k a)) (fun _ _=>False):=
 aW (inl:=(fun f=>f==195||f==202||f==205||f==206||f==207||f==208)) (ann:=(iy [(202,2,RV [0,2] (fun _=> []) 0 (fun g=> .blk tW (XQ (.lp 0 0) g)) (mY L k a 0) nX)])) (ab Df (ab bC (ab jj (ab eY (ab lf (ab Gk (ab qQ ak))))))) aC (eH E8) (Q6 L k a ha) (by kernel_rfl)
theorem Fq:ck Tryz.prog 196 TJ:=
 eP (aJ s8 (aJ gQ (aJ ft cF))) (fun _=>rfl) fun a hq hok=>by
  obtain⟨S,k,i,_⟩:=a;cases S with
  |none=>exact K7 k i hok.2.2.1
  |some L=>exact RA L k i hok.2.2.1
theorem Kz (L:List Sx.Obj) (k:Key) (a:Int) (ha:bY .i64 a) (hL:aq L):
 (decide (b9 (aj L)=0)=true->void=bV (ar L k a)/\0=bU (ar L k a)/\void=cO (ar L k a)/\0=c9 (ar L k a)/\0=ej (ar L k a)/\void=fe (ar L k a)/\0=fc
  (ar L k a) a/\1=c8 L k a)/\(decide (b9 (aj L)=0)=false->((!cZ L k)=true->void=bV (ar L k a)/\0=bU (ar L k a)/\void=cO (ar L k a)/\0=c9 (ar L k a)/\0=
  ej (ar L k a)/\void=fe (ar L k a)/\0=fc (ar L k a) a/\2=c8 L k a)/\((!cZ L k)=false->(decide (a<0)=true->void=bV (ar L k a)/\0=bU (ar L k a)/\void=
  cO (ar L k a)/\0=c9 (ar L k a)/\0=ej (ar L k a)/\void=fe (ar L k a)/\0=fc (ar L k a) a/\4=c8 L k a)/\(decide (a<0)=false->(∃g,mY L k a 99 g/\a=a/\a=
  g.adr/\0=g.rts/\99=g.hi/\0=g.dep/\L=L/\k=k/\void=void/\void=void/\void=void/\k=g.pos/\void=g.kpr)/\∀(g:Wk),mY L k a 99 g->(decide (g.dep<20)=true->((!aU L
  g.pos|| !decide (g.pos.kind=2)&& !decide (g.pos.kind=3))=true->void=bV (ar L k a)/\0=bU (ar L k a)/\void=cO (ar L k a)/\0=c9 (ar L k a)/\1=ej (ar L k a)/\
  g.kpr=fe (ar L k a)/\a=fc (ar L k a) a/\0=c8 L k a)/\((!aU L g.pos|| !decide (g.pos.kind=2)&& !decide (g.pos.kind=3))=false->(decide (g.pos.kind=3)=true->(decide (63
  <g.adr)=true->void=bV (ar L k a)/\0=bU (ar L k a)/\void=cO (ar L k a)/\0=c9 (ar L k a)/\2=ej (ar L k a)/\g.kpr=fe (ar L k a)/\a=fc (ar L k a) a/\0=
  c8 L k a)/\(decide (63<g.adr)=false->(ng 4/\aG IntKind.i64 (g.rts.tmod 4))/\((!decide (g.rts.tmod 4=0))=true->Key.mk g.pos.kind g.pos.oid g.pos.count g.pos.call 1 g.pos.value=bV
  (ar L k a)/\g.adr=bU (ar L k a)/\g.kpr=cO (ar L k a)/\g.dep=c9 (ar L k a)/\0=ej (ar L k a)/\void=fe (ar L k a)/\0=fc (ar L k a) a/\0=c8 L k a)/\
  ((!decide (g.rts.tmod 4=0))=false->g.pos=bV (ar L k a)/\g.adr=bU (ar L k a)/\g.kpr=cO (ar L k a)/\g.dep=c9 (ar L k a)/\0=ej (ar L k a)/\void=fe (ar L k a)
  /\0=fc (ar L k a) a/\0=c8 L k a)))/\(decide (g.pos.kind=3)=false->(decide (8<=g.dep)=true->void=bV (ar L k a)/\0=bU (ar L k a)/\void=cO (ar L k a)/\0=c9
  (ar L k a)/\3=ej (ar L k a)/\g.kpr=fe (ar L k a)/\a=fc (ar L k a) a/\0=c8 L k a)/\(decide (8<=g.dep)=false->(∃g_1,jQ g_1/\a=a/\g.adr=g.adr/\g.rts=fk
  g.rts g.pos.rights g_1/\g.hi=g.hi/\g.dep=g.dep/\1=g_1/\L=L/\k=k/\void=void/\void=void/\void=void/\g.pos=g.pos/\g.kpr=g.kpr/\g.kpr=g.kpr/\a=a)/\∀(g_1:Int),jQ
  g_1->(decide (g_1<=4)=true->(ng g_1/\aG IntKind.i64 (g.pos.rights.tdiv g_1))/\(ng 2/\aG IntKind.i64 ((g.pos.rights.tdiv g_1).tmod 2))/\(decide ((g.pos.rights.tdiv g_1).tmod 2=1)=true
  ->ng g_1/\aG IntKind.i64 ((fk g.rts g.pos.rights g_1).tdiv g_1))/\(decide ((g.pos.rights.tdiv g_1).tmod 2=1)=true->ng 2/\aG IntKind.i64 (((fk g.rts g.pos.rights g_1).tdiv g_1).tmod
  2))/\((decide ((g.pos.rights.tdiv g_1).tmod 2=1)&&decide (((fk g.rts g.pos.rights g_1).tdiv g_1).tmod 2=0))=true->aG IntKind.i64 (fk g.rts g.pos.rights g_1+g_1)/\aG IntKind.i64
  (g_1*2)/\∃g',jQ g'/\(8-g').toNat<(8-g_1).toNat/\a=a/\g.adr=g.adr/\fk g.rts g.pos.rights g_1+g_1=fk g.rts g.pos.rights g'/\g.hi=g.hi/\g.dep=g.dep/\g_1*2=g'/\
  L=L/\k=k/\void=void/\void=void/\void=void/\g.pos=g.pos/\g.kpr=g.kpr/\g.kpr=g.kpr/\a=a)/\((decide ((g.pos.rights.tdiv g_1).tmod 2=1)&&decide (((fk g.rts g.pos.rights
  g_1).tdiv g_1).tmod 2=0))=false->aG IntKind.i64 (g_1*2)/\∃g',jQ g'/\(8-g').toNat<(8-g_1).toNat/\a=a/\g.adr=g.adr/\fk g.rts g.pos.rights g_1=fk g.rts g.pos.rights
  g'/\g.hi=g.hi/\g.dep=g.dep/\g_1*2=g'/\L=L/\k=k/\void=void/\void=void/\void=void/\g.pos=g.pos/\g.kpr=g.kpr/\g.kpr=g.kpr/\a=a))/\(decide (g_1<=4)=false->(0<=
  g.pos.oid/\g.pos.oid< ↑(aj L))/\g.pos.oid.toNat<aj L/\((!decide (((ah L g.pos.oid.toNat free).slots.at 15).kind=1)||decide (((ah L g.pos.oid.toNat free).slots.at 15).value<1)||
  decide (8<((ah L g.pos.oid.toNat free).slots.at 15).value)||decide (g.hi<=((ah L g.pos.oid.toNat free).slots.at 15).value))=true->void=bV (ar L k a)/\0=bU (ar L k a)/\void=
  cO (ar L k a)/\0=c9 (ar L k a)/\4=ej (ar L k a)/\g.kpr=fe (ar L k a)/\a=fc (ar L k a) a/\0=c8 L k a)/\((!decide (((ah L g.pos.oid.toNat free).slots.at 15).kind=
  1)||decide (((ah L g.pos.oid.toNat free).slots.at 15).value<1)||decide (8<((ah L g.pos.oid.toNat free).slots.at 15).value)||decide (g.hi<=((ah L g.pos.oid.toNat free).slots.at
  15).value))=false->((decide ((ae L ((ah L g.pos.oid.toNat free).slots.at 14)).kind=6)&&decide (fk g.rts g.pos.rights g_1<4))=true->ja ((ah L g.pos.oid.toNat free).slots.at
  15).value/\(ng (aX ((ah L g.pos.oid.toNat free).slots.at 15).value)/\aG IntKind.i64 (g.adr.tdiv (aX ((ah L g.pos.oid.toNat free).slots.at 15).value)))/\(decide (13<g.adr.tdiv
  (aX ((ah L g.pos.oid.toNat free).slots.at 15).value))=true->void=bV (ar L k a)/\0=bU (ar L k a)/\void=cO (ar L k a)/\0=c9 (ar L k a)/\2=ej (ar L k a)/\ae
  L ((ah L g.pos.oid.toNat free).slots.at 14)=fe (ar L k a)/\a=fc (ar L k a) a/\0=c8 L k a)/\(decide (13<g.adr.tdiv (aX ((ah L g.pos.oid.toNat free).slots.at 15).value))=
  false->ja ((ah L g.pos.oid.toNat free).slots.at 15).value/\(ng (aX ((ah L g.pos.oid.toNat free).slots.at 15).value)/\aG IntKind.i64 (g.adr.tmod (aX ((ah L g.pos.oid.toNat
  free).slots.at 15).value)))/\na L g.pos (g.adr.tdiv (aX ((ah L g.pos.oid.toNat free).slots.at 15).value))/\aG IntKind.i64 (g.dep+1)/\∃g',mY L k a 99 g'/\nX g'<nX g/\a=a
  /\g.adr.tmod (aX ((ah L g.pos.oid.toNat free).slots.at 15).value)=g'.adr/\fk g.rts g.pos.rights g_1=g'.rts/\((ah L g.pos.oid.toNat free).slots.at 15).value=g'.hi/\g.dep+1=g'.dep
  /\L=L/\k=k/\void=void/\void=void/\void=void/\cN L g.pos (g.adr.tdiv (aX ((ah L g.pos.oid.toNat free).slots.at 15).value))=g'.pos/\ae L ((ah L g.pos.oid.toNat
  free).slots.at 14)=g'.kpr))/\((decide ((ae L ((ah L g.pos.oid.toNat free).slots.at 14)).kind=6)&&decide (fk g.rts g.pos.rights g_1<4))=false->ja ((ah L g.pos.oid.toNat
  free).slots.at 15).value/\(ng (aX ((ah L g.pos.oid.toNat free).slots.at 15).value)/\aG IntKind.i64 (g.adr.tdiv (aX ((ah L g.pos.oid.toNat free).slots.at 15).value)))/\(decide (13<
  g.adr.tdiv (aX ((ah L g.pos.oid.toNat free).slots.at 15).value))=true->void=bV (ar L k a)/\0=bU (ar L k a)/\void=cO (ar L k a)/\0=c9 (ar L k a)/\2=ej (ar L k
  a)/\g.kpr=fe (ar L k a)/\a=fc (ar L k a) a/\0=c8 L k a)/\(decide (13<g.adr.tdiv (aX ((ah L g.pos.oid.toNat free).slots.at 15).value))=false->ja ((ah L
  g.pos.oid.toNat free).slots.at 15).value/\(ng (aX ((ah L g.pos.oid.toNat free).slots.at 15).value)/\aG IntKind.i64 (g.adr.tmod (aX ((ah L g.pos.oid.toNat free).slots.at 15).value)))/\
  na L g.pos (g.adr.tdiv (aX ((ah L g.pos.oid.toNat free).slots.at 15).value))/\aG IntKind.i64 (g.dep+1)/\∃g',mY L k a 99 g'/\nX g'<nX g/\a=a/\g.adr.tmod (aX ((ah L
  g.pos.oid.toNat free).slots.at 15).value)=g'.adr/\fk g.rts g.pos.rights g_1=g'.rts/\((ah L g.pos.oid.toNat free).slots.at 15).value=g'.hi/\g.dep+1=g'.dep/\L=L/\k=k/\void=void
  /\void=void/\void=void/\cN L g.pos (g.adr.tdiv (aX ((ah L g.pos.oid.toNat free).slots.at 15).value))=g'.pos/\g.kpr=g'.kpr))))))))/\(decide (g.dep<20)=false->void=bV (ar
  L k a)/\0=bU (ar L k a)/\void=cO (ar L k a)/\0=c9 (ar L k a)/\0=ej (ar L k a)/\void=fe (ar L k a)/\0=fc (ar L k a) a/\2=c8 L k a)))):=by
 refine⟨fun h=>xp (Vk h) (by omega),fun h=>⟨fun h2=>?_,fun h2=>⟨fun h3=>?_,fun h3=>⟨?_,fun g hI=>⟨fun _=>?_,fun hd=>?_⟩⟩⟩⟩⟩
 ·rw[Bool.not_eq_true']at h2;exact xp (by rw[OO h,h2];rfl) (by omega)
 ·rw[Bool.not_eq_false']at h2;exact xp (by rw[OO h,h2,Yq rfl,Yq (Yn h3)]) (by omega)
 ·refine⟨vX k a 99,VH (Ym h3) 99,?_⟩;repeat' apply And.intro
  all_goals rfl
 rotate_left
 ·have:=hI.2.2.1.2;have:=Ym hd;omega
 rw[Bool.not_eq_false']at h2;have hE:c8 L k a=0:=by rw[OO h,h2,Yq rfl,Yp (Ym h3)]
 clear h h2 h3;obtain⟨⟨a1,a2⟩,⟨r1,r2⟩,⟨d1,d2⟩,e1,e2,e3⟩:=id hI;refine⟨fun v=>?_,fun v=>?_⟩
 ·have hv:∀d:Int,d=2\/d=3->(ae L g.pos).kind≠d:=fun d hd hk=>by
   obtain⟨p1,p2⟩:=Bz (L:=L) (k:=g.pos) (by rw[hk];exact hd)
   rw[p1]at hk;rw[p2,hk]at v;rcases hd with rfl|rfl<;>simp at v
  exact pq hI hE (Fx d1 d2 (hv 3 (.inr rfl)) (hv 2 (.inl rfl))) (by omega)
 simp only[Bool.or_eq_false_iff,Bool.not_eq_false',Bool.and_eq_false_iff,Yk]at v;obtain⟨vi,vk⟩:=v;have pe:ae L g.pos=g.pos:=Qz vi;have hall:=dz vi;have hp:=n9 hall.1;refine⟨fun v3=>⟨fun b=>?_,fun b=>⟨⟨by unfold ng;omega,?_⟩,fun ro=>?_,fun ro=>?_⟩⟩,fun v3=>⟨fun b=>?_,fun b=>⟨?_,fun i hi=>⟨fun hlt=>?_,fun hge=>?_⟩⟩⟩⟩
 ·have v3:=Yn v3;have b:=Yn b;exact pq hI hE (Jf d1 d2 (by rw[pe];exact v3) (by omega)) (by omega)
 ·have h1:=Int.tmod_lt_of_pos g.rts (show(0:Int)<4 by omega)
  have h2:=Int.lt_tmod_of_pos g.rts (show(0:Int)<4 by omega)
  simp only[aG,bY];omega
 ·have v3:=Yn v3;have b:=Ym b;have ro:g.rts.tmod 4≠0:=by simpa using ro
  have:=wg d1 d2 (by rw[pe];exact v3) (by omega)
  rw[pe]at this;unfold nu at this;rw[Yp ro]at this;exact Ga hI hE this
 ·have v3:=Yn v3;have b:=Ym b;have ro:g.rts.tmod 4=0:=by simpa using ro
  have:=wg d1 d2 (by rw[pe];exact v3) (by omega)
  rw[pe]at this;unfold nu at this;rw[Yq ro]at this;exact Ga hI hE this
 ·have v3:=Ym v3;have b:=Yn b;exact pq hI hE (Nk d1 d2 (by rw[pe];omega) (by omega)) (by omega)
 ·refine⟨1,.inl rfl,?_⟩;have:=(V2 (r:=g.rts) (m:=g.pos.rights)).symm;repeat' apply And.intro
  all_goals first|rfl|exact this
 ·have hlt:=Yn hlt;have hi3:i=1\/i=2\/i=4:=by unfold jQ at hi;omega
  obtain⟨⟨o1,o2⟩,o3,o4⟩:=VW r1 r2 hp.1 hp.2 hi3;have hne:ng i:=by unfold ng;omega
  have h2:ng 2:=by unfold ng;omega
  have hi4:i=1\/i=2\/i=4\/i=8:=hi;have hn:jQ (i*2)/\(8-i*2).toNat<(8-i).toNat:=by unfold jQ;omega
  have t1:aG IntKind.i64 (g.pos.rights.tdiv i):=s9 (by simp only[bY];omega) hi4
  have t2:aG IntKind.i64 ((fk g.rts g.pos.rights i).tdiv i):=s9 (by simp only[bY];omega) hi4
  refine⟨⟨hne,t1⟩,⟨h2,nZ _⟩,fun _=>⟨hne,t2⟩,fun _=>⟨h2,nZ _⟩,fun c=>⟨by simp only[aG,bY];omega,by simp only[aG,bY];omega,i*2,hn.1,hn.2,?_⟩,fun c=>⟨by simp only[aG,bY];omega,i*2,hn.1,hn.2,?_⟩⟩
  ·have:=o3 c;repeat' apply And.intro
   all_goals first|rfl|exact this
  ·have:=o4 c;repeat' apply And.intro
   all_goals first|rfl|exact this
 ·have hge:=Ym hge;have hi8:i=8:=by unfold jQ at hi;omega
  subst hi8;have v3:=Ym v3;have b:=Ym b;have v2:g.pos.kind=2:=by omega
  have v2':(ae L g.pos).kind=2:=by rw[pe];exact v2
  have hsl:=(rY hL vi v2 15 (by omega)).1
  have hO:0<=mL g.rts g.pos.rights/\mL g.rts g.pos.rights<=7:=(Te r1 r2 hp.1 hp.2).2;have hraw:=PQ (L:=L) hsl (by have:=hall.2.1;have:=hall.2.2.1;omega)
  have eG:∀j,cN L (cJ (ae L g.pos) 0) j=ae L ((ah L g.pos.oid.toNat free).slots.at j.toNat):=fun j=>by rw[pe];rfl
  have e15:cN L (cJ (ae L g.pos) 0) 15=ae L ((ah L g.pos.oid.toNat free).slots.at 15):=eG 15;have e14:cN L (cJ (ae L g.pos) 0) 14=ae L ((ah L g.pos.oid.toNat free).slots.at 14):=eG 14;generalize hS:(ah L g.pos.oid.toNat free).slots.at 15=S at *
  refine⟨⟨hall.2.1,hall.2.2.1⟩,by have:=hall.2.1;have:=hall.2.2.1;unfold aj;omega,fun f=>?_,fun f=>?_⟩
  ·refine pq hI hE (Gu d1 d2 v2' (by omega) ?_) (by omega)
   rw[e15];rw[Bool.eq_false_iff,ne_eq,uu];rintro⟨f1,f2,f3,f4⟩
   have:ae L S=S:=hraw.1 (by by_cases hk:S.kind=1;exact hk;exact absurd f1 (hraw.2 hk))
   rw[this]at f1 f2 f3 f4;simp only[Bool.or_eq_true,Bool.not_eq_true',Yk,decide_eq_false_iff_not]at f;rcases f4 with f4|f4
   ·have:=e1 f4;omega
   ·omega
  ·simp only[Bool.or_eq_false_iff,Bool.not_eq_false',Yk,decide_eq_false_iff_not]at f;obtain⟨⟨⟨f1,f2⟩,f3⟩,f4⟩:=f;have eS:ae L S=S:=hraw.1 f1;rw[eS]at e15;have fh:pf g (cN L (cJ (ae L g.pos) 0) 15)=true:=by rw[e15,uu];exact⟨f1,by omega,by omega,.inr (by omega)⟩
   have he:=qD (show S.value<=9 by omega)
   have hd:=qE a1 he.1;have q1:ja S.value:=⟨by omega,by omega⟩
   have q2:ng (aX S.value):=by unfold ng;omega
   unfold bY at ha;have q3:aG IntKind.i64 (g.adr.tdiv (aX S.value)):=by simp only[aG,bY];omega
   have q4:aG IntKind.i64 (g.adr.tmod (aX S.value)):=by simp only[aG,bY];omega
   have q5:aG IntKind.i64 (g.dep+1):=by simp only[aG,bY];omega
   have kp:∀b,(decide ((ae L ((ah L g.pos.oid.toNat free).slots.at 14)).kind=6)&&decide (fk g.rts g.pos.rights 8<4))=b->u7 (mL g.rts g.pos.rights) (ae L ((ah L g.pos.oid.toNat free).slots.at 14)) g.kpr=if b then ae L ((ah L g.pos.oid.toNat free).slots.at 14)else g.kpr:=by
    intro b hb;unfold u7 mL;cases b
    ·simp only[Bool.and_eq_false_iff,decide_eq_false_iff_not]at hb;rw[Yp (by omega)];rfl
    ·simp only[Yj,Yk]at hb;rw[Yq hb];rfl
   have gs:∀s:¬g.adr.tdiv (aX S.value)<14,hJ L (9-g.dep).toNat g=⟨2,void,0,u7 (mL g.rts g.pos.rights) (ae L ((ah L g.pos.oid.toNat free).slots.at 14)) g.kpr,0⟩:=fun s=>by
    have:=BO d1 d2 v2' (by omega) fh (by rw[e15];exact s)
    rw[e14,pe]at this;exact this
   have gn:∀s:g.adr.tdiv (aX S.value)<14,mY L k a 99 ⟨cN L g.pos (g.adr.tdiv (aX S.value)),g.adr.tmod (aX S.value),mL g.rts g.pos.rights,u7 (mL g.rts g.pos.rights) (ae L ((ah L g.pos.oid.toNat free).slots.at 14)) g.kpr,g.dep+1,S.value⟩/\
     nX ⟨cN L g.pos (g.adr.tdiv (aX S.value)),g.adr.tmod (aX S.value),mL g.rts g.pos.rights,u7 (mL g.rts g.pos.rights) (ae L ((ah L g.pos.oid.toNat free).slots.at 14)) g.kpr,g.dep+1,S.value⟩<nX g:=fun s=>by
    have:=KK hI v2' (by omega) fh (by rw[e15];exact s)
    unfold Jw at this;rw[e15,e14,pe]at this;exact this
   refine⟨fun c=>⟨q1,⟨q2,q3⟩,fun s=>?_,fun s=>⟨q1,⟨q2,q4⟩,?_,q5,_,(gn ?_).1,(gn ?_).2,?_⟩⟩,fun c=>⟨q1,⟨q2,q3⟩,fun s=>?_,fun s=>⟨q1,⟨q2,q4⟩,?_,q5,_,(gn ?_).1,(gn ?_).2,?_⟩⟩⟩
   ·have s:=Yn s;exact pq hI hE ((gs (by omega)).trans (by rw[kp _ c];rfl)) (by omega)
   ·have s:=Ym s;exact⟨hd.1,by omega,hall.2.1,hall.2.2.1⟩
   ·have s:=Ym s;omega
   ·have s:=Ym s;omega
   ·have:=kp _ c;repeat' apply And.intro
    all_goals first|with_reducible rfl|exact this.symm|rfl
   ·have s:=Yn s;exact pq hI hE ((gs (by omega)).trans (by rw[kp _ c];rfl)) (by omega)
   ·have s:=Ym s;exact⟨hd.1,by omega,hall.2.1,hall.2.2.1⟩
   ·have s:=Ym s;omega
   ·have s:=Ym s;omega
   ·have:=kp _ c;repeat' apply And.intro
    all_goals first|with_reducible rfl|exact this.symm|rfl
theorem L2 (L:List Sx.Obj) (k:Key) (a:Int) (ha:bY .i64 a) (hL:aq L):ai Tryz.prog 192 [.sa 0,.key k,.it .i64 a] [.ro (.arr none 163 (.ob L))] (mn (Dq L k a)) (fun _ _=>False):=
 aV (inl:=bp) (ann:=(iy [(192,10,XO [0,2,4,6,7,8,9,13] (fun g=> [(10,.it .i64 g.adr),(11,.it .i64 g.rts),(12,.it .i64 g.hi),(14,.it .i64 g.dep)]) (fun g=> [(4,.blk tK (.key g.pos)),(5,.blk tK (.key g.kpr))]) (mY L k a 99) nX),(192,27,Xo [0,2,4,6,7,8,9,10,12,13,14,15] jQ 8)])) (ab Br (ab mD (ab qk (ab Ky (ab wS ak))))) (Kz L k a ha hL) (by kernel_rfl)
theorem LA:ck Tryz.prog 192 Rp:=
 eP (aJ js (aJ gQ (aJ ft cF))) (fun _=>rfl) fun a hq hok=>by
  obtain⟨L,k,i,_⟩:=a;exact L2 L k i hok.2.2.1 hq
end Go.Proofs.YtghpaegglbbocaaGreat
