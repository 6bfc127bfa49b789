import Derived.Test.YtghpaegglbbocaaGreatCtWa
import Derived.Test.YtghpaegglbbocaaGreatCV
namespace Go.Proofs.YtghpaegglbbocaaGreat
open Go.Sx
set_option maxRecDepth 100000
theorem Km:
 ∀(nid:Nat),some (V.mp nid)=some (V.mp nid)/\some [aI.mp IntKind.i64 [3,2] [V.fn 206 [],V.fn 207 []]]=some [aI.mp IntKind.i64 [3,2] [V.fn 206 [],V.fn 207 []]]:=by
 exact fun nid=>⟨rfl,rfl⟩
theorem B7:ck Tryz.prog 204 (C0 Ya Yc):=yf (π:= [0]) (by decide) (fun _=>rfl) (bn (inl:=bp) (ann:=aP) ak aC Km (by kernel_rfl))
theorem J0 (k:Key) (a:Int) (ha:bY .i64 a):
 true=true/\(decide (an []=0)=true->void=bV (ar [] k a)/\0=bU (ar [] k a)/\void=cO (ar [] k a)/\0=c9 (ar [] k a)/\0=en (ar [] k a)/\void=fe (ar [] k
  a)/\0=fc (ar [] k a) a/\1=c8 [] k a)/\(decide (an []=0)=false->((!decide (bD k=0)||bf k&&decide (an []<=cS k))=true->void=bV (ar [] k a)/\0=bU
  (ar [] k a)/\void=cO (ar [] k a)/\0=c9 (ar [] k a)/\0=en (ar [] k a)/\void=fe (ar [] k a)/\0=fc (ar [] k a) a/\2=c8 [] k a)/\((!decide (bD k=0)||
  bf k&&decide (an []<=cS k))=false->(decide (a<0)=true->void=bV (ar [] k a)/\0=bU (ar [] k a)/\void=cO (ar [] k a)/\0=c9 (ar [] k a)/\0=en (ar []
  k a)/\void=fe (ar [] k a)/\0=fc (ar [] k a) a/\4=c8 [] k a)/\(decide (a<0)=false->true=true/\(∃g,mY [] k a 0 g/\k=k/\void=void/\void=void/\void=void/\k=k
  /\Value.pointer none=Value.pointer none/\k=g.pos/\a=g.adr/\0=g.rts/\void=g.kpr/\0=g.dep/\0=g.hi/\false=false)/\∀(g:Wk),mY [] k a 0 g->true=true/\((!(decide ((ae []
  g.pos).kind=3)||decide ((ae [] g.pos).kind=2)))=true->((!decide (1=0))=true->void=bV (ar [] k a)/\0=bU (ar [] k a)/\void=cO (ar [] k a)/\0=c9 (ar [] k a)/\
  1=en (ar [] k a)/\g.kpr=fe (ar [] k a)/\a=fc (ar [] k a) a/\0=c8 [] k a)/\((!decide (1=0))=false->ae [] g.pos=bV (ar [] k a)/\g.adr=bU (ar [] k a)/\
  g.kpr=cO (ar [] k a)/\g.dep=c9 (ar [] k a)/\0=en (ar [] k a)/\void=fe (ar [] k a)/\0=fc (ar [] k a) a/\0=c8 [] k a))/\((!(decide ((ae [] g.pos).kind=3)||
  decide ((ae [] g.pos).kind=2)))=false->(decide ((ae [] g.pos).kind=3)=true->true=true/\true=true/\((!decide (g.adr<64))=true->((!decide (2=0))=true->void=bV (ar
  [] k a)/\0=bU (ar [] k a)/\void=cO (ar [] k a)/\0=c9 (ar [] k a)/\2=en (ar [] k a)/\g.kpr=fe (ar [] k a)/\a=fc (ar [] k a) a/\0=c8 [] k a)/\((!decide (2
  =0))=false->ae [] g.pos=bV (ar [] k a)/\g.adr=bU (ar [] k a)/\g.kpr=cO (ar [] k a)/\g.dep=c9 (ar [] k a)/\0=en (ar [] k a)/\void=fe (ar [] k a)/\0=
  fc (ar [] k a) a/\0=c8 [] k a))/\((!decide (g.adr<64))=false->((!decide (bc BinOp.and IntKind.i64 g.rts 3=0))=true->Key.mk (ae [] g.pos).kind (ae [] g.pos).oid (ae []
  g.pos).count (ae [] g.pos).call (bc BinOp.or IntKind.i64 (ae [] g.pos).rights 1) (ae [] g.pos).value=bV (ar [] k a)/\g.adr=bU (ar [] k a)/\g.kpr=cO (ar [] k a)/\
  g.dep=c9 (ar [] k a)/\0=en (ar [] k a)/\void=fe (ar [] k a)/\0=fc (ar [] k a) a/\0=c8 [] k a)/\((!decide (bc BinOp.and IntKind.i64 g.rts 3=0))=false->ae []
  g.pos=bV (ar [] k a)/\g.adr=bU (ar [] k a)/\g.kpr=cO (ar [] k a)/\g.dep=c9 (ar [] k a)/\0=en (ar [] k a)/\void=fe (ar [] k a)/\0=fc (ar [] k a) a/\0=
  c8 [] k a)))/\(decide ((ae [] g.pos).kind=3)=false->(decide ((ae [] g.pos).kind=2)=true->true=true/\true=true/\((!decide (g.dep<8))=true->((!decide (3=0))=true->
  void=bV (ar [] k a)/\0=bU (ar [] k a)/\void=cO (ar [] k a)/\0=c9 (ar [] k a)/\3=en (ar [] k a)/\g.kpr=fe (ar [] k a)/\a=fc (ar [] k a) a/\0=c8 [] k
  a)/\((!decide (3=0))=false->ae [] g.pos=bV (ar [] k a)/\g.adr=bU (ar [] k a)/\g.kpr=cO (ar [] k a)/\g.dep=c9 (ar [] k a)/\0=en (ar [] k a)/\void=fe
  (ar [] k a)/\0=fc (ar [] k a) a/\0=c8 [] k a))/\((!decide (g.dep<8))=false->true=true/\true=true/\((!(decide ((aF [] (Key.mk 2 (ae [] g.pos).oid (ae []
  g.pos).count void.call void.rights void.value) 15).kind=1)&&decide (1<=(aF [] (Key.mk 2 (ae [] g.pos).oid (ae [] g.pos).count void.call void.rights void.value) 15).value)&&decide
  ((aF [] (Key.mk 2 (ae [] g.pos).oid (ae [] g.pos).count void.call void.rights void.value) 15).value<=8)&&(decide (g.dep=0)||decide ((aF [] (Key.mk 2 (ae [] g.pos).oid (ae
  [] g.pos).count void.call void.rights void.value) 15).value<g.hi))))=true->((!decide (4=0))=true->void=bV (ar [] k a)/\0=bU (ar [] k a)/\void=cO (ar [] k a)/\0=c9
  (ar [] k a)/\4=en (ar [] k a)/\g.kpr=fe (ar [] k a)/\a=fc (ar [] k a) a/\0=c8 [] k a)/\((!decide (4=0))=false->ae [] g.pos=bV (ar [] k a)/\g.adr=bU
  (ar [] k a)/\g.kpr=cO (ar [] k a)/\g.dep=c9 (ar [] k a)/\0=en (ar [] k a)/\void=fe (ar [] k a)/\0=fc (ar [] k a) a/\0=c8 [] k a))/\((!(decide ((aF []
  (Key.mk 2 (ae [] g.pos).oid (ae [] g.pos).count void.call void.rights void.value) 15).kind=1)&&decide (1<=(aF [] (Key.mk 2 (ae [] g.pos).oid (ae [] g.pos).count void.call
  void.rights void.value) 15).value)&&decide ((aF [] (Key.mk 2 (ae [] g.pos).oid (ae [] g.pos).count void.call void.rights void.value) 15).value<=8)&&(decide (g.dep=0)||decide
  ((aF [] (Key.mk 2 (ae [] g.pos).oid (ae [] g.pos).count void.call void.rights void.value) 15).value<g.hi))))=false->true=true/\((decide ((aF [] (Key.mk 2 (ae [] g.pos).oid
  (ae [] g.pos).count void.call void.rights void.value) 14).kind=6)&&decide (bc BinOp.and IntKind.i64 (bc BinOp.or IntKind.i64 g.rts (ae [] g.pos).rights) 4=0))=true->jj
  (aF [] (Key.mk 2 (ae [] g.pos).oid (ae [] g.pos).count void.call void.rights void.value) 15).value/\(nm (aY (aF [] (Key.mk 2 (ae [] g.pos).oid (ae [] g.pos).count
  void.call void.rights void.value) 15).value)/\aG IntKind.i64 (g.adr.tdiv (aY (aF [] (Key.mk 2 (ae [] g.pos).oid (ae [] g.pos).count void.call void.rights void.value) 15).value)))/\
  true=true/\((!decide (g.adr.tdiv (aY (aF [] (Key.mk 2 (ae [] g.pos).oid (ae [] g.pos).count void.call void.rights void.value) 15).value)<14))=true->((!decide (2=0))=true->
  void=bV (ar [] k a)/\0=bU (ar [] k a)/\void=cO (ar [] k a)/\0=c9 (ar [] k a)/\2=en (ar [] k a)/\aF [] (Key.mk 2 (ae [] g.pos).oid (ae [] g.pos).count
  void.call void.rights void.value) 14=fe (ar [] k a)/\a=fc (ar [] k a) a/\0=c8 [] k a)/\((!decide (2=0))=false->ae [] g.pos=bV (ar [] k a)/\g.adr=bU (ar [] k a)
  /\aF [] (Key.mk 2 (ae [] g.pos).oid (ae [] g.pos).count void.call void.rights void.value) 14=cO (ar [] k a)/\g.dep=c9 (ar [] k a)/\0=en (ar [] k a)/\void=fe (ar
  [] k a)/\0=fc (ar [] k a) a/\0=c8 [] k a))/\((!decide (g.adr.tdiv (aY (aF [] (Key.mk 2 (ae [] g.pos).oid (ae [] g.pos).count void.call void.rights void.value) 15).value)<
  14))=false->aG IntKind.i64 (g.dep+1)/\(nm (aY (aF [] (Key.mk 2 (ae [] g.pos).oid (ae [] g.pos).count void.call void.rights void.value) 15).value)/\aG IntKind.i64 (g.adr.tmod
  (aY (aF [] (Key.mk 2 (ae [] g.pos).oid (ae [] g.pos).count void.call void.rights void.value) 15).value)))/\∃g',mY [] k a 0 g'/\nN g'<nN g/\k=k/\void=void/\void=void
  /\void=void/\k=k/\Value.pointer none=Value.pointer none/\aF [] (ae [] g.pos) (g.adr.tdiv (aY (aF [] (Key.mk 2 (ae [] g.pos).oid (ae [] g.pos).count void.call
  void.rights void.value) 15).value))=g'.pos/\g.adr.tmod (aY (aF [] (Key.mk 2 (ae [] g.pos).oid (ae [] g.pos).count void.call void.rights void.value) 15).value)=g'.adr/\bc
  BinOp.or IntKind.i64 g.rts (ae [] g.pos).rights=g'.rts/\aF [] (Key.mk 2 (ae [] g.pos).oid (ae [] g.pos).count void.call void.rights void.value) 14=g'.kpr/\g.dep+1=g'.dep/\
  (aF [] (Key.mk 2 (ae [] g.pos).oid (ae [] g.pos).count void.call void.rights void.value) 15).value=g'.hi/\false=false))/\((decide ((aF [] (Key.mk 2 (ae [] g.pos).oid (ae
  [] g.pos).count void.call void.rights void.value) 14).kind=6)&&decide (bc BinOp.and IntKind.i64 (bc BinOp.or IntKind.i64 g.rts (ae [] g.pos).rights) 4=0))=false->jj (aF []
  (Key.mk 2 (ae [] g.pos).oid (ae [] g.pos).count void.call void.rights void.value) 15).value/\(nm (aY (aF [] (Key.mk 2 (ae [] g.pos).oid (ae [] g.pos).count void.call
  void.rights void.value) 15).value)/\aG IntKind.i64 (g.adr.tdiv (aY (aF [] (Key.mk 2 (ae [] g.pos).oid (ae [] g.pos).count void.call void.rights void.value) 15).value)))/\true=true
  /\((!decide (g.adr.tdiv (aY (aF [] (Key.mk 2 (ae [] g.pos).oid (ae [] g.pos).count void.call void.rights void.value) 15).value)<14))=true->((!decide (2=0))=true->void=bV
  (ar [] k a)/\0=bU (ar [] k a)/\void=cO (ar [] k a)/\0=c9 (ar [] k a)/\2=en (ar [] k a)/\g.kpr=fe (ar [] k a)/\a=fc (ar [] k a) a/\0=c8 [] k a)/\
  ((!decide (2=0))=false->ae [] g.pos=bV (ar [] k a)/\g.adr=bU (ar [] k a)/\g.kpr=cO (ar [] k a)/\g.dep=c9 (ar [] k a)/\0=en (ar [] k a)/\void=fe (ar []
  k a)/\0=fc (ar [] k a) a/\0=c8 [] k a))/\((!decide (g.adr.tdiv (aY (aF [] (Key.mk 2 (ae [] g.pos).oid (ae [] g.pos).count void.call void.rights void.value) 15).value)<
  14))=false->aG IntKind.i64 (g.dep+1)/\(nm (aY (aF [] (Key.mk 2 (ae [] g.pos).oid (ae [] g.pos).count void.call void.rights void.value) 15).value)/\aG IntKind.i64 (g.adr.tmod
  (aY (aF [] (Key.mk 2 (ae [] g.pos).oid (ae [] g.pos).count void.call void.rights void.value) 15).value)))/\∃g',mY [] k a 0 g'/\nN g'<nN g/\k=k/\void=void/\void=void
  /\void=void/\k=k/\Value.pointer none=Value.pointer none/\aF [] (ae [] g.pos) (g.adr.tdiv (aY (aF [] (Key.mk 2 (ae [] g.pos).oid (ae [] g.pos).count void.call
  void.rights void.value) 15).value))=g'.pos/\g.adr.tmod (aY (aF [] (Key.mk 2 (ae [] g.pos).oid (ae [] g.pos).count void.call void.rights void.value) 15).value)=g'.adr/\bc
  BinOp.or IntKind.i64 g.rts (ae [] g.pos).rights=g'.rts/\g.kpr=g'.kpr/\g.dep+1=g'.dep/\(aF [] (Key.mk 2 (ae [] g.pos).oid (ae [] g.pos).count void.call void.rights void.value)
  15).value=g'.hi/\false=false)))))/\(decide ((ae [] g.pos).kind=2)=false->False)))))):=by
 refine⟨rfl,fun h=>xS (Vp h) (by omega),fun h=>absurd h (by decide)⟩
theorem KQ (k:Key) (a:Int) (ha:bY .i64 a):aj Tryz.prog 196 [lg,.key k,.it .i64 a] [] (mS (BT [] k a)) (fun _ _=>False):=
 aW (inl:=(fun f=>f==195||f==202||f==205||f==206||f==207||f==208)) (ann:=(iB [(202,2,RL [0,2] (fun _=> []) 0 (fun g=> .blk tW (XX (lg) g)) (mY [] k a 0) nN)])) (ab B7 (ab bB (ab jf (ab eY (ab ld (ab Gi (ab rl ak))))))) aC (eF Gg) (J0 k a ha) (by kernel_rfl)
theorem OC (L:List Sx.Obj) (k:Key) (a:Int) (ha:bY .i64 a):
 true=true/\(decide (an L=0)=true->void=bV (ar L k a)/\0=bU (ar L k a)/\void=cO (ar L k a)/\0=c9 (ar L k a)/\0=en (ar L k a)/\void=fe (ar L k a)/\0
  =fc (ar L k a) a/\1=c8 L k a)/\(decide (an L=0)=false->((!decide (bD k=0)||bf k&&decide (an L<=cS k))=true->void=bV (ar L k a)/\0=bU (ar L k a)
  /\void=cO (ar L k a)/\0=c9 (ar L k a)/\0=en (ar L k a)/\void=fe (ar L k a)/\0=fc (ar L k a) a/\2=c8 L k a)/\((!decide (bD k=0)||bf k&&decide
  (an L<=cS k))=false->(decide (a<0)=true->void=bV (ar L k a)/\0=bU (ar L k a)/\void=cO (ar L k a)/\0=c9 (ar L k a)/\0=en (ar L k a)/\void=fe (ar
  L k a)/\0=fc (ar L k a) a/\4=c8 L k a)/\(decide (a<0)=false->true=true/\(∃g,mY L k a 0 g/\L=L/\k=k/\void=void/\void=void/\void=void/\k=k/\k=g.pos/\a=
  g.adr/\0=g.rts/\void=g.kpr/\0=g.dep/\0=g.hi/\false=false)/\∀(g:Wk),mY L k a 0 g->true=true/\((!(decide ((ae L g.pos).kind=3)||decide ((ae L g.pos).kind=2)))=
  true->((!decide (1=0))=true->void=bV (ar L k a)/\0=bU (ar L k a)/\void=cO (ar L k a)/\0=c9 (ar L k a)/\1=en (ar L k a)/\g.kpr=fe (ar L k a)/\a=fc
  (ar L k a) a/\0=c8 L k a)/\((!decide (1=0))=false->ae L g.pos=bV (ar L k a)/\g.adr=bU (ar L k a)/\g.kpr=cO (ar L k a)/\g.dep=c9 (ar L k a)/\0=en (ar L
  k a)/\void=fe (ar L k a)/\0=fc (ar L k a) a/\0=c8 L k a))/\((!(decide ((ae L g.pos).kind=3)||decide ((ae L g.pos).kind=2)))=false->(decide ((ae L g.pos).kind=
  3)=true->true=true/\true=true/\((!decide (g.adr<64))=true->((!decide (2=0))=true->void=bV (ar L k a)/\0=bU (ar L k a)/\void=cO (ar L k a)/\0=c9 (ar L k a)
  /\2=en (ar L k a)/\g.kpr=fe (ar L k a)/\a=fc (ar L k a) a/\0=c8 L k a)/\((!decide (2=0))=false->ae L g.pos=bV (ar L k a)/\g.adr=bU (ar L k a)/\g.kpr=
  cO (ar L k a)/\g.dep=c9 (ar L k a)/\0=en (ar L k a)/\void=fe (ar L k a)/\0=fc (ar L k a) a/\0=c8 L k a))/\((!decide (g.adr<64))=false->((!decide (bc
  BinOp.and IntKind.i64 g.rts 3=0))=true->Key.mk (ae L g.pos).kind (ae L g.pos).oid (ae L g.pos).count (ae L g.pos).call (bc BinOp.or IntKind.i64 (ae L g.pos).rights 1)
  (ae L g.pos).value=bV (ar L k a)/\g.adr=bU (ar L k a)/\g.kpr=cO (ar L k a)/\g.dep=c9 (ar L k a)/\0=en (ar L k a)/\void=fe (ar L k a)/\0=fc (ar L k a)
  a/\0=c8 L k a)/\((!decide (bc BinOp.and IntKind.i64 g.rts 3=0))=false->ae L g.pos=bV (ar L k a)/\g.adr=bU (ar L k a)/\g.kpr=cO (ar L k a)/\g.dep=c9 (ar L k
  a)/\0=en (ar L k a)/\void=fe (ar L k a)/\0=fc (ar L k a) a/\0=c8 L k a)))/\(decide ((ae L g.pos).kind=3)=false->(decide ((ae L g.pos).kind=2)=true->true=
  true/\true=true/\((!decide (g.dep<8))=true->((!decide (3=0))=true->void=bV (ar L k a)/\0=bU (ar L k a)/\void=cO (ar L k a)/\0=c9 (ar L k a)/\3=en (ar L k
  a)/\g.kpr=fe (ar L k a)/\a=fc (ar L k a) a/\0=c8 L k a)/\((!decide (3=0))=false->ae L g.pos=bV (ar L k a)/\g.adr=bU (ar L k a)/\g.kpr=cO (ar L k a)/\
  g.dep=c9 (ar L k a)/\0=en (ar L k a)/\void=fe (ar L k a)/\0=fc (ar L k a) a/\0=c8 L k a))/\((!decide (g.dep<8))=false->true=true/\true=true/\((!(decide
  ((aF L (Key.mk 2 (ae L g.pos).oid (ae L g.pos).count void.call void.rights void.value) 15).kind=1)&&decide (1<=(aF L (Key.mk 2 (ae L g.pos).oid (ae L g.pos).count void.call
  void.rights void.value) 15).value)&&decide ((aF L (Key.mk 2 (ae L g.pos).oid (ae L g.pos).count void.call void.rights void.value) 15).value<=8)&&(decide (g.dep=0)||decide ((aF
  L (Key.mk 2 (ae L g.pos).oid (ae L g.pos).count void.call void.rights void.value) 15).value<g.hi))))=true->((!decide (4=0))=true->void=bV (ar L k a)/\0=bU (ar L k a)/\
  void=cO (ar L k a)/\0=c9 (ar L k a)/\4=en (ar L k a)/\g.kpr=fe (ar L k a)/\a=fc (ar L k a) a/\0=c8 L k a)/\((!decide (4=0))=false->ae L g.pos=bV
  (ar L k a)/\g.adr=bU (ar L k a)/\g.kpr=cO (ar L k a)/\g.dep=c9 (ar L k a)/\0=en (ar L k a)/\void=fe (ar L k a)/\0=fc (ar L k a) a/\0=c8 L k a))/\
  ((!(decide ((aF L (Key.mk 2 (ae L g.pos).oid (ae L g.pos).count void.call void.rights void.value) 15).kind=1)&&decide (1<=(aF L (Key.mk 2 (ae L g.pos).oid (ae L
  g.pos).count void.call void.rights void.value) 15).value)&&decide ((aF L (Key.mk 2 (ae L g.pos).oid (ae L g.pos).count void.call void.rights void.value) 15).value<=8)&&(decide (g.dep=
  0)||decide ((aF L (Key.mk 2 (ae L g.pos).oid (ae L g.pos).count void.call void.rights void.value) 15).value<g.hi))))=false->true=true/\((decide ((aF L (Key.mk 2 (ae L
  g.pos).oid (ae L g.pos).count void.call void.rights void.value) 14).kind=6)&&decide (bc BinOp.and IntKind.i64 (bc BinOp.or IntKind.i64 g.rts (ae L g.pos).rights) 4=0))=true->
  jj (aF L (Key.mk 2 (ae L g.pos).oid (ae L g.pos).count void.call void.rights void.value) 15).value/\(nm (aY (aF L (Key.mk 2 (ae L g.pos).oid (ae L g.pos).count
  void.call void.rights void.value) 15).value)/\aG IntKind.i64 (g.adr.tdiv (aY (aF L (Key.mk 2 (ae L g.pos).oid (ae L g.pos).count void.call void.rights void.value) 15).value)))/\true
  =true/\((!decide (g.adr.tdiv (aY (aF L (Key.mk 2 (ae L g.pos).oid (ae L g.pos).count void.call void.rights void.value) 15).value)<14))=true->((!decide (2=0))=true->void=
  bV (ar L k a)/\0=bU (ar L k a)/\void=cO (ar L k a)/\0=c9 (ar L k a)/\2=en (ar L k a)/\aF L (Key.mk 2 (ae L g.pos).oid (ae L g.pos).count void.call
  void.rights void.value) 14=fe (ar L k a)/\a=fc (ar L k a) a/\0=c8 L k a)/\((!decide (2=0))=false->ae L g.pos=bV (ar L k a)/\g.adr=bU (ar L k a)/\aF L
  (Key.mk 2 (ae L g.pos).oid (ae L g.pos).count void.call void.rights void.value) 14=cO (ar L k a)/\g.dep=c9 (ar L k a)/\0=en (ar L k a)/\void=fe (ar L k a)/\0=fc
  (ar L k a) a/\0=c8 L k a))/\((!decide (g.adr.tdiv (aY (aF L (Key.mk 2 (ae L g.pos).oid (ae L g.pos).count void.call void.rights void.value) 15).value)<14))=false->aG
  IntKind.i64 (g.dep+1)/\(nm (aY (aF L (Key.mk 2 (ae L g.pos).oid (ae L g.pos).count void.call void.rights void.value) 15).value)/\aG IntKind.i64 (g.adr.tmod (aY (aF L
  (Key.mk 2 (ae L g.pos).oid (ae L g.pos).count void.call void.rights void.value) 15).value)))/\∃g',mY L k a 0 g'/\nN g'<nN g/\L=L/\k=k/\void=void/\void=void/\void=void
  /\k=k/\aF L (ae L g.pos) (g.adr.tdiv (aY (aF L (Key.mk 2 (ae L g.pos).oid (ae L g.pos).count void.call void.rights void.value) 15).value))=g'.pos/\g.adr.tmod (aY
  (aF L (Key.mk 2 (ae L g.pos).oid (ae L g.pos).count void.call void.rights void.value) 15).value)=g'.adr/\bc BinOp.or IntKind.i64 g.rts (ae L g.pos).rights=g'.rts/\aF L
  (Key.mk 2 (ae L g.pos).oid (ae L g.pos).count void.call void.rights void.value) 14=g'.kpr/\g.dep+1=g'.dep/\(aF L (Key.mk 2 (ae L g.pos).oid (ae L g.pos).count void.call
  void.rights void.value) 15).value=g'.hi/\false=false))/\((decide ((aF L (Key.mk 2 (ae L g.pos).oid (ae L g.pos).count void.call void.rights void.value) 14).kind=6)&&decide (bc
  BinOp.and IntKind.i64 (bc BinOp.or IntKind.i64 g.rts (ae L g.pos).rights) 4=0))=false->jj (aF L (Key.mk 2 (ae L g.pos).oid (ae L g.pos).count void.call void.rights
  void.value) 15).value/\(nm (aY (aF L (Key.mk 2 (ae L g.pos).oid (ae L g.pos).count void.call void.rights void.value) 15).value)/\aG IntKind.i64 (g.adr.tdiv (aY (aF L
  (Key.mk 2 (ae L g.pos).oid (ae L g.pos).count void.call void.rights void.value) 15).value)))/\true=true/\((!decide (g.adr.tdiv (aY (aF L (Key.mk 2 (ae L g.pos).oid (ae L
  g.pos).count void.call void.rights void.value) 15).value)<14))=true->((!decide (2=0))=true->void=bV (ar L k a)/\0=bU (ar L k a)/\void=cO (ar L k a)/\0=c9 (ar L k a)
  /\2=en (ar L k a)/\g.kpr=fe (ar L k a)/\a=fc (ar L k a) a/\0=c8 L k a)/\((!decide (2=0))=false->ae L g.pos=bV (ar L k a)/\g.adr=bU (ar L k a)/\g.kpr=
  cO (ar L k a)/\g.dep=c9 (ar L k a)/\0=en (ar L k a)/\void=fe (ar L k a)/\0=fc (ar L k a) a/\0=c8 L k a))/\((!decide (g.adr.tdiv (aY (aF L (Key.mk 2 (ae
  L g.pos).oid (ae L g.pos).count void.call void.rights void.value) 15).value)<14))=false->aG IntKind.i64 (g.dep+1)/\(nm (aY (aF L (Key.mk 2 (ae L g.pos).oid (ae L
  g.pos).count void.call void.rights void.value) 15).value)/\aG IntKind.i64 (g.adr.tmod (aY (aF L (Key.mk 2 (ae L g.pos).oid (ae L g.pos).count void.call void.rights void.value)
  15).value)))/\∃g',mY L k a 0 g'/\nN g'<nN g/\L=L/\k=k/\void=void/\void=void/\void=void/\k=k/\aF L (ae L g.pos) (g.adr.tdiv (aY (aF L (Key.mk 2 (ae L
  g.pos).oid (ae L g.pos).count void.call void.rights void.value) 15).value))=g'.pos/\g.adr.tmod (aY (aF L (Key.mk 2 (ae L g.pos).oid (ae L g.pos).count void.call void.rights
  void.value) 15).value)=g'.adr/\bc BinOp.or IntKind.i64 g.rts (ae L g.pos).rights=g'.rts/\g.kpr=g'.kpr/\g.dep+1=g'.dep/\(aF L (Key.mk 2 (ae L g.pos).oid (ae L
  g.pos).count void.call void.rights void.value) 15).value=g'.hi/\false=false)))))/\(decide ((ae L g.pos).kind=2)=false->False)))))):=by
 refine⟨rfl,fun h=>xS (Vp h) (by omega),fun h=>⟨fun h2=>?_,fun h2=>⟨fun h3=>?_,fun h3=>⟨rfl,?_,fun g hI=>⟨rfl,?_⟩⟩⟩⟩⟩
 ·rw[zI,Bool.not_eq_true']at h2;exact xS (by rw[PR h,h2];rfl) (by omega)
 ·rw[zI,Bool.not_eq_false']at h2;exact xS (by rw[PR h,h2,Yq rfl,Yq (Yn h3)]) (by omega)
 ·refine⟨vV k a 0,Wd (Ym h3) 0,?_⟩;repeat' apply And.intro
  all_goals rfl
 rw[zI,Bool.not_eq_false']at h2;have hE:c8 L k a=0:=by rw[PR h,h2,Yq rfl,Yp (Ym h3)]
 clear h h2 h3;obtain⟨⟨a1,a2⟩,⟨r1,r2⟩,⟨d1,d2⟩,e1,e2,e3⟩:=id hI;refine⟨fun v=>⟨fun _=>?_,fun h=>absurd h (by decide)⟩,fun v=>⟨fun v3=>⟨rfl,rfl,fun b=>⟨fun _=>?_,fun h=>absurd h (by decide)⟩,fun b=>⟨fun ro=>?_,fun ro=>?_⟩⟩,fun v3=>⟨fun v2=>?_,fun v2=>?_⟩⟩⟩
 ·simp only[Bool.not_eq_true',Bool.or_eq_false_iff,decide_eq_false_iff_not]at v;exact pg hI hE (Gb d1 d2 v.1 v.2) (by omega)
 ·have v3:=Yn v3;exact pg hI hE (KI d1 d2 v3 (by simpa using b)) (by omega)
 ·have v3:=Yn v3;have hb:g.adr<64:=by simpa using b
  have hp:=gT (ou L g.pos);have hm:eK (ae L g.pos).kind=1:=by rw[v3];rfl
  rw[N5 r1 r2]at ro;have ro:g.rts.tmod 4≠0:=by simpa using ro
  refine Fx hI hE ((wP d1 d2 v3 hb).trans ?_);rw[Df hp.1 (by omega)]
  unfold nA;rw[Yp ro];rfl
 ·have v3:=Yn v3;have hb:g.adr<64:=by simpa using b
  rw[N5 r1 r2]at ro;have ro:g.rts.tmod 4=0:=by simpa using ro
  refine Fx hI hE ((wP d1 d2 v3 hb).trans ?_);unfold nA;rw[Yq ro]
 ·have v3:=Ym v3;have v2:=Yn v2;obtain⟨pe,pi⟩:=Bb (.inl v2);have pi':aU L (ae L g.pos)=true:=by rw[pe];exact pi
  have hp:=oq (ou L g.pos);have ho:=TN r1 r2 hp.1 hp.2;rw[Nx (i:=15) pi' v2 (by omega) (by omega),Nx (i:=14) pi' v2 (by omega) (by omega),ho.1,XI ho.2.1 ho.2.2]
  refine⟨rfl,rfl,fun b=>⟨fun _=>?_,fun h=>absurd h (by decide)⟩,fun b=>⟨rfl,rfl,fun f=>⟨fun _=>?_,fun h=>absurd h (by decide)⟩,fun f=>⟨rfl,?_⟩⟩⟩
  ·exact pg hI hE (IY d1 d2 v2 (by simpa using b)) (by omega)
  ·have b:g.dep<8:=by simpa using b
   exact pg hI hE (FW d1 d2 v2 b (by unfold pw;rw[Bool.not_eq_true']at f;exact f)) (by omega)
  ·have b:g.dep<8:=by simpa using b
   have f:pw g (cK L (cM (ae L g.pos) 0) 15)=true:=by unfold pw;rw[Bool.not_eq_false']at f;exact f
   have hf':=ur.1 f;have he:=qY (show(cK L (cM (ae L g.pos) 0) 15).value<=9 by omega)
   have hd:=qB a1 he.1;have q1:jj (cK L (cM (ae L g.pos) 0) 15).value:=⟨by omega,by omega⟩
   have q2:nm (aY (cK L (cM (ae L g.pos) 0) 15).value):=by unfold nm;omega
   unfold bY at ha;have q3:aG IntKind.i64 (g.adr.tdiv (aY (cK L (cM (ae L g.pos) 0) 15).value)):=by simp only[aG,bY];omega
   have q4:aG IntKind.i64 (g.adr.tmod (aY (cK L (cM (ae L g.pos) 0) 15).value)):=by simp only[aG,bY];omega
   have q5:aG IntKind.i64 (g.dep+1):=by simp only[aG,bY];omega
   have kp:∀b,(decide ((cK L (cM (ae L g.pos) 0) 14).kind=6)&&decide (mQ g.rts (ae L g.pos).rights<4))=b->uX (mQ g.rts (ae L g.pos).rights) (cK L (cM (ae L g.pos) 0) 14) g.kpr=if b then cK L (cM (ae L g.pos) 0) 14 else g.kpr:=by
    intro b hb;unfold uX;cases b
    ·simp only[Bool.and_eq_false_iff,decide_eq_false_iff_not]at hb;rw[Yp (by omega)];rfl
    ·simp only[Yj,Yk]at hb;rw[Yq hb];rfl
   refine⟨fun c=>⟨q1,⟨q2,q3⟩,rfl,fun s=>⟨fun _=>?_,fun h=>absurd h (by decide)⟩,fun s=>⟨q5,⟨q2,q4⟩,Iv L g,?_⟩⟩,fun c=>⟨q1,⟨q2,q3⟩,rfl,fun s=>⟨fun _=>?_,fun h=>absurd h (by decide)⟩,fun s=>⟨q5,⟨q2,q4⟩,Iv L g,?_⟩⟩⟩
   ·exact pg hI hE ((Bi d1 d2 v2 b f (by simpa using s)).trans (by rw[kp _ c];rfl)) (by omega)
   ·have s:g.adr.tdiv (aY (cK L (cM (ae L g.pos) 0) 15).value)<14:=by simpa using s
    obtain⟨n1,n2⟩:=Nw hI v2 b f s;rw[Ey pi' v2 hd.1 (by omega)]
    refine⟨n1,n2,rfl,rfl,rfl,rfl,rfl,rfl,rfl,rfl,rfl,?_,rfl,rfl,rfl⟩;show _=uX _ _ _
    rw[kp _ c];rfl
   ·exact pg hI hE ((Bi d1 d2 v2 b f (by simpa using s)).trans (by rw[kp _ c];rfl)) (by omega)
   ·have s:g.adr.tdiv (aY (cK L (cM (ae L g.pos) 0) 15).value)<14:=by simpa using s
    obtain⟨n1,n2⟩:=Nw hI v2 b f s;rw[Ey pi' v2 hd.1 (by omega)]
    refine⟨n1,n2,rfl,rfl,rfl,rfl,rfl,rfl,rfl,rfl,rfl,?_,rfl,rfl,rfl⟩;show _=uX _ _ _
    rw[kp _ c];rfl
 ·simp only[Bool.not_eq_false',Bool.or_eq_true,Yk]at v;have v3:=Ym v3;have v2:=Ym v2;omega
theorem O8 (L:List Sx.Obj) (k:Key) (a:Int) (ha:bY .i64 a):aj Tryz.prog 196 [.lp 0 0,.key k,.it .i64 a] [.ro (.store tS eS L)] (mS (BT L k a)) (fun _ _=>False):=
 aW (inl:=(fun f=>f==195||f==202||f==205||f==206||f==207||f==208)) (ann:=(iB [(202,2,RL [0,2] (fun _=> []) 0 (fun g=> .blk tW (XX (.lp 0 0) g)) (mY L k a 0) nN)])) (ab B7 (ab bB (ab jf (ab eY (ab ld (ab Gi (ab rl ak))))))) aC (eF Gg) (OC L k a ha) (by kernel_rfl)
theorem E3:ck Tryz.prog 196 SU:=
 eW (aJ sZ (aJ gQ (aJ fm cF))) (fun _=>rfl) fun a hq hok=>by
  obtain⟨S,k,i,_⟩:=a;cases S with
  |none=>exact KQ k i hok.2.2.1
  |some L=>exact O8 L k i hok.2.2.1
theorem KA (L:List Sx.Obj) (k:Key) (a:Int) (ha:bY .i64 a) (hL:aq L):
 (decide (b9 (ai L)=0)=true->void=bV (ar L k a)/\0=bU (ar L k a)/\void=cO (ar L k a)/\0=c9 (ar L k a)/\0=en (ar L k a)/\void=fe (ar L k a)/\0=fc
  (ar L k a) a/\1=c8 L k a)/\(decide (b9 (ai L)=0)=false->((!cZ L k)=true->void=bV (ar L k a)/\0=bU (ar L k a)/\void=cO (ar L k a)/\0=c9 (ar L k a)/\0=
  en (ar L k a)/\void=fe (ar L k a)/\0=fc (ar L k a) a/\2=c8 L k a)/\((!cZ L k)=false->(decide (a<0)=true->void=bV (ar L k a)/\0=bU (ar L k a)/\void=
  cO (ar L k a)/\0=c9 (ar L k a)/\0=en (ar L k a)/\void=fe (ar L k a)/\0=fc (ar L k a) a/\4=c8 L k a)/\(decide (a<0)=false->(∃g,mY L k a 99 g/\a=a/\a=
  g.adr/\0=g.rts/\99=g.hi/\0=g.dep/\L=L/\k=k/\void=void/\void=void/\void=void/\k=g.pos/\void=g.kpr)/\∀(g:Wk),mY L k a 99 g->(decide (g.dep<20)=true->((!aU L
  g.pos|| !decide (g.pos.kind=2)&& !decide (g.pos.kind=3))=true->void=bV (ar L k a)/\0=bU (ar L k a)/\void=cO (ar L k a)/\0=c9 (ar L k a)/\1=en (ar L k a)/\
  g.kpr=fe (ar L k a)/\a=fc (ar L k a) a/\0=c8 L k a)/\((!aU L g.pos|| !decide (g.pos.kind=2)&& !decide (g.pos.kind=3))=false->(decide (g.pos.kind=3)=true->(decide (63
  <g.adr)=true->void=bV (ar L k a)/\0=bU (ar L k a)/\void=cO (ar L k a)/\0=c9 (ar L k a)/\2=en (ar L k a)/\g.kpr=fe (ar L k a)/\a=fc (ar L k a) a/\0=
  c8 L k a)/\(decide (63<g.adr)=false->(nm 4/\aG IntKind.i64 (g.rts.tmod 4))/\((!decide (g.rts.tmod 4=0))=true->Key.mk g.pos.kind g.pos.oid g.pos.count g.pos.call 1 g.pos.value=bV
  (ar L k a)/\g.adr=bU (ar L k a)/\g.kpr=cO (ar L k a)/\g.dep=c9 (ar L k a)/\0=en (ar L k a)/\void=fe (ar L k a)/\0=fc (ar L k a) a/\0=c8 L k a)/\
  ((!decide (g.rts.tmod 4=0))=false->g.pos=bV (ar L k a)/\g.adr=bU (ar L k a)/\g.kpr=cO (ar L k a)/\g.dep=c9 (ar L k a)/\0=en (ar L k a)/\void=fe (ar L k a)
  /\0=fc (ar L k a) a/\0=c8 L k a)))/\(decide (g.pos.kind=3)=false->(decide (8<=g.dep)=true->void=bV (ar L k a)/\0=bU (ar L k a)/\void=cO (ar L k a)/\0=c9
  (ar L k a)/\3=en (ar L k a)/\g.kpr=fe (ar L k a)/\a=fc (ar L k a) a/\0=c8 L k a)/\(decide (8<=g.dep)=false->(∃g_1,jS g_1/\a=a/\g.adr=g.adr/\g.rts=fk
  g.rts g.pos.rights g_1/\g.hi=g.hi/\g.dep=g.dep/\1=g_1/\L=L/\k=k/\void=void/\void=void/\void=void/\g.pos=g.pos/\g.kpr=g.kpr/\g.kpr=g.kpr/\a=a)/\∀(g_1:Int),jS
  g_1->(decide (g_1<=4)=true->(nm g_1/\aG IntKind.i64 (g.pos.rights.tdiv g_1))/\(nm 2/\aG IntKind.i64 ((g.pos.rights.tdiv g_1).tmod 2))/\(decide ((g.pos.rights.tdiv g_1).tmod 2=1)=true
  ->nm g_1/\aG IntKind.i64 ((fk g.rts g.pos.rights g_1).tdiv g_1))/\(decide ((g.pos.rights.tdiv g_1).tmod 2=1)=true->nm 2/\aG IntKind.i64 (((fk g.rts g.pos.rights g_1).tdiv g_1).tmod
  2))/\((decide ((g.pos.rights.tdiv g_1).tmod 2=1)&&decide (((fk g.rts g.pos.rights g_1).tdiv g_1).tmod 2=0))=true->aG IntKind.i64 (fk g.rts g.pos.rights g_1+g_1)/\aG IntKind.i64
  (g_1*2)/\∃g',jS g'/\(8-g').toNat<(8-g_1).toNat/\a=a/\g.adr=g.adr/\fk g.rts g.pos.rights g_1+g_1=fk g.rts g.pos.rights g'/\g.hi=g.hi/\g.dep=g.dep/\g_1*2=g'/\
  L=L/\k=k/\void=void/\void=void/\void=void/\g.pos=g.pos/\g.kpr=g.kpr/\g.kpr=g.kpr/\a=a)/\((decide ((g.pos.rights.tdiv g_1).tmod 2=1)&&decide (((fk g.rts g.pos.rights
  g_1).tdiv g_1).tmod 2=0))=false->aG IntKind.i64 (g_1*2)/\∃g',jS g'/\(8-g').toNat<(8-g_1).toNat/\a=a/\g.adr=g.adr/\fk g.rts g.pos.rights g_1=fk g.rts g.pos.rights
  g'/\g.hi=g.hi/\g.dep=g.dep/\g_1*2=g'/\L=L/\k=k/\void=void/\void=void/\void=void/\g.pos=g.pos/\g.kpr=g.kpr/\g.kpr=g.kpr/\a=a))/\(decide (g_1<=4)=false->(0<=
  g.pos.oid/\g.pos.oid< ↑(ai L))/\g.pos.oid.toNat<ai L/\((!decide (((ah L g.pos.oid.toNat free).slots.at 15).kind=1)||decide (((ah L g.pos.oid.toNat free).slots.at 15).value<1)||
  decide (8<((ah L g.pos.oid.toNat free).slots.at 15).value)||decide (g.hi<=((ah L g.pos.oid.toNat free).slots.at 15).value))=true->void=bV (ar L k a)/\0=bU (ar L k a)/\void=
  cO (ar L k a)/\0=c9 (ar L k a)/\4=en (ar L k a)/\g.kpr=fe (ar L k a)/\a=fc (ar L k a) a/\0=c8 L k a)/\((!decide (((ah L g.pos.oid.toNat free).slots.at 15).kind=
  1)||decide (((ah L g.pos.oid.toNat free).slots.at 15).value<1)||decide (8<((ah L g.pos.oid.toNat free).slots.at 15).value)||decide (g.hi<=((ah L g.pos.oid.toNat free).slots.at
  15).value))=false->((decide ((ae L ((ah L g.pos.oid.toNat free).slots.at 14)).kind=6)&&decide (fk g.rts g.pos.rights g_1<4))=true->jj ((ah L g.pos.oid.toNat free).slots.at
  15).value/\(nm (aY ((ah L g.pos.oid.toNat free).slots.at 15).value)/\aG IntKind.i64 (g.adr.tdiv (aY ((ah L g.pos.oid.toNat free).slots.at 15).value)))/\(decide (13<g.adr.tdiv
  (aY ((ah L g.pos.oid.toNat free).slots.at 15).value))=true->void=bV (ar L k a)/\0=bU (ar L k a)/\void=cO (ar L k a)/\0=c9 (ar L k a)/\2=en (ar L k a)/\ae
  L ((ah L g.pos.oid.toNat free).slots.at 14)=fe (ar L k a)/\a=fc (ar L k a) a/\0=c8 L k a)/\(decide (13<g.adr.tdiv (aY ((ah L g.pos.oid.toNat free).slots.at 15).value))=
  false->jj ((ah L g.pos.oid.toNat free).slots.at 15).value/\(nm (aY ((ah L g.pos.oid.toNat free).slots.at 15).value)/\aG IntKind.i64 (g.adr.tmod (aY ((ah L g.pos.oid.toNat
  free).slots.at 15).value)))/\m9 L g.pos (g.adr.tdiv (aY ((ah L g.pos.oid.toNat free).slots.at 15).value))/\aG IntKind.i64 (g.dep+1)/\∃g',mY L k a 99 g'/\nN g'<nN g/\a=a
  /\g.adr.tmod (aY ((ah L g.pos.oid.toNat free).slots.at 15).value)=g'.adr/\fk g.rts g.pos.rights g_1=g'.rts/\((ah L g.pos.oid.toNat free).slots.at 15).value=g'.hi/\g.dep+1=g'.dep
  /\L=L/\k=k/\void=void/\void=void/\void=void/\cK L g.pos (g.adr.tdiv (aY ((ah L g.pos.oid.toNat free).slots.at 15).value))=g'.pos/\ae L ((ah L g.pos.oid.toNat
  free).slots.at 14)=g'.kpr))/\((decide ((ae L ((ah L g.pos.oid.toNat free).slots.at 14)).kind=6)&&decide (fk g.rts g.pos.rights g_1<4))=false->jj ((ah L g.pos.oid.toNat
  free).slots.at 15).value/\(nm (aY ((ah L g.pos.oid.toNat free).slots.at 15).value)/\aG IntKind.i64 (g.adr.tdiv (aY ((ah L g.pos.oid.toNat free).slots.at 15).value)))/\(decide (13<
  g.adr.tdiv (aY ((ah L g.pos.oid.toNat free).slots.at 15).value))=true->void=bV (ar L k a)/\0=bU (ar L k a)/\void=cO (ar L k a)/\0=c9 (ar L k a)/\2=en (ar L k
  a)/\g.kpr=fe (ar L k a)/\a=fc (ar L k a) a/\0=c8 L k a)/\(decide (13<g.adr.tdiv (aY ((ah L g.pos.oid.toNat free).slots.at 15).value))=false->jj ((ah L
  g.pos.oid.toNat free).slots.at 15).value/\(nm (aY ((ah L g.pos.oid.toNat free).slots.at 15).value)/\aG IntKind.i64 (g.adr.tmod (aY ((ah L g.pos.oid.toNat free).slots.at 15).value)))/\
  m9 L g.pos (g.adr.tdiv (aY ((ah L g.pos.oid.toNat free).slots.at 15).value))/\aG IntKind.i64 (g.dep+1)/\∃g',mY L k a 99 g'/\nN g'<nN g/\a=a/\g.adr.tmod (aY ((ah L
  g.pos.oid.toNat free).slots.at 15).value)=g'.adr/\fk g.rts g.pos.rights g_1=g'.rts/\((ah L g.pos.oid.toNat free).slots.at 15).value=g'.hi/\g.dep+1=g'.dep/\L=L/\k=k/\void=void
  /\void=void/\void=void/\cK L g.pos (g.adr.tdiv (aY ((ah L g.pos.oid.toNat free).slots.at 15).value))=g'.pos/\g.kpr=g'.kpr))))))))/\(decide (g.dep<20)=false->void=bV (ar
  L k a)/\0=bU (ar L k a)/\void=cO (ar L k a)/\0=c9 (ar L k a)/\0=en (ar L k a)/\void=fe (ar L k a)/\0=fc (ar L k a) a/\2=c8 L k a)))):=by
 refine⟨fun h=>xS (Vp h) (by omega),fun h=>⟨fun h2=>?_,fun h2=>⟨fun h3=>?_,fun h3=>⟨?_,fun g hI=>⟨fun _=>?_,fun hd=>?_⟩⟩⟩⟩⟩
 ·rw[Bool.not_eq_true']at h2;exact xS (by rw[PR h,h2];rfl) (by omega)
 ·rw[Bool.not_eq_false']at h2;exact xS (by rw[PR h,h2,Yq rfl,Yq (Yn h3)]) (by omega)
 ·refine⟨vV k a 99,Wd (Ym h3) 99,?_⟩;repeat' apply And.intro
  all_goals rfl
 rotate_left
 ·have:=hI.2.2.1.2;have:=Ym hd;omega
 rw[Bool.not_eq_false']at h2;have hE:c8 L k a=0:=by rw[PR h,h2,Yq rfl,Yp (Ym h3)]
 clear h h2 h3;obtain⟨⟨a1,a2⟩,⟨r1,r2⟩,⟨d1,d2⟩,e1,e2,e3⟩:=id hI;refine⟨fun v=>?_,fun v=>?_⟩
 ·have hv:∀d:Int,d=2\/d=3->(ae L g.pos).kind≠d:=fun d hd hk=>by
   obtain⟨p1,p2⟩:=Bb (L:=L) (k:=g.pos) (by rw[hk];exact hd)
   rw[p1]at hk;rw[p2,hk]at v;rcases hd with rfl|rfl<;>simp at v
  exact pg hI hE (Gb d1 d2 (hv 3 (.inr rfl)) (hv 2 (.inl rfl))) (by omega)
 simp only[Bool.or_eq_false_iff,Bool.not_eq_false',Bool.and_eq_false_iff,Yk]at v;obtain⟨vi,vk⟩:=v;have pe:ae L g.pos=g.pos:=Q8 vi;have hall:=dz vi;have hp:=oq hall.1;refine⟨fun v3=>⟨fun b=>?_,fun b=>⟨⟨by unfold nm;omega,?_⟩,fun ro=>?_,fun ro=>?_⟩⟩,fun v3=>⟨fun b=>?_,fun b=>⟨?_,fun i hi=>⟨fun hlt=>?_,fun hge=>?_⟩⟩⟩⟩
 ·have v3:=Yn v3;have b:=Yn b;exact pg hI hE (KI d1 d2 (by rw[pe];exact v3) (by omega)) (by omega)
 ·have h1:=Int.tmod_lt_of_pos g.rts (show(0:Int)<4 by omega)
  have h2:=Int.lt_tmod_of_pos g.rts (show(0:Int)<4 by omega)
  simp only[aG,bY];omega
 ·have v3:=Yn v3;have b:=Ym b;have ro:g.rts.tmod 4≠0:=by simpa using ro
  have:=wP d1 d2 (by rw[pe];exact v3) (by omega)
  rw[pe]at this;unfold nA at this;rw[Yp ro]at this;exact Fx hI hE this
 ·have v3:=Yn v3;have b:=Ym b;have ro:g.rts.tmod 4=0:=by simpa using ro
  have:=wP d1 d2 (by rw[pe];exact v3) (by omega)
  rw[pe]at this;unfold nA at this;rw[Yq ro]at this;exact Fx hI hE this
 ·have v3:=Ym v3;have b:=Yn b;exact pg hI hE (IY d1 d2 (by rw[pe];omega) (by omega)) (by omega)
 ·refine⟨1,.inl rfl,?_⟩;have:=(Vi (r:=g.rts) (m:=g.pos.rights)).symm;repeat' apply And.intro
  all_goals first|rfl|exact this
 ·have hlt:=Yn hlt;have hi3:i=1\/i=2\/i=4:=by unfold jS at hi;omega
  obtain⟨⟨o1,o2⟩,o3,o4⟩:=Wx r1 r2 hp.1 hp.2 hi3;have hne:nm i:=by unfold nm;omega
  have h2:nm 2:=by unfold nm;omega
  have hi4:i=1\/i=2\/i=4\/i=8:=hi;have hn:jS (i*2)/\(8-i*2).toNat<(8-i).toNat:=by unfold jS;omega
  have t1:aG IntKind.i64 (g.pos.rights.tdiv i):=sG (by simp only[bY];omega) hi4
  have t2:aG IntKind.i64 ((fk g.rts g.pos.rights i).tdiv i):=sG (by simp only[bY];omega) hi4
  refine⟨⟨hne,t1⟩,⟨h2,nO _⟩,fun _=>⟨hne,t2⟩,fun _=>⟨h2,nO _⟩,fun c=>⟨by simp only[aG,bY];omega,by simp only[aG,bY];omega,i*2,hn.1,hn.2,?_⟩,fun c=>⟨by simp only[aG,bY];omega,i*2,hn.1,hn.2,?_⟩⟩
  ·have:=o3 c;repeat' apply And.intro
   all_goals first|rfl|exact this
  ·have:=o4 c;repeat' apply And.intro
   all_goals first|rfl|exact this
 ·have hge:=Ym hge;have hi8:i=8:=by unfold jS at hi;omega
  subst hi8;have v3:=Ym v3;have b:=Ym b;have v2:g.pos.kind=2:=by omega
  have v2':(ae L g.pos).kind=2:=by rw[pe];exact v2
  have hsl:=(sB hL vi v2 15 (by omega)).1
  have hO:0<=mQ g.rts g.pos.rights/\mQ g.rts g.pos.rights<=7:=(TN r1 r2 hp.1 hp.2).2;have hraw:=Pf (L:=L) hsl (by have:=hall.2.1;have:=hall.2.2.1;omega)
  have eG:∀j,cK L (cM (ae L g.pos) 0) j=ae L ((ah L g.pos.oid.toNat free).slots.at j.toNat):=fun j=>by rw[pe];rfl
  have e15:cK L (cM (ae L g.pos) 0) 15=ae L ((ah L g.pos.oid.toNat free).slots.at 15):=eG 15;have e14:cK L (cM (ae L g.pos) 0) 14=ae L ((ah L g.pos.oid.toNat free).slots.at 14):=eG 14;generalize hS:(ah L g.pos.oid.toNat free).slots.at 15=S at *
  refine⟨⟨hall.2.1,hall.2.2.1⟩,by have:=hall.2.1;have:=hall.2.2.1;unfold ai;omega,fun f=>?_,fun f=>?_⟩
  ·refine pg hI hE (FW d1 d2 v2' (by omega) ?_) (by omega)
   rw[e15];rw[Bool.eq_false_iff,ne_eq,ur];rintro⟨f1,f2,f3,f4⟩
   have:ae L S=S:=hraw.1 (by by_cases hk:S.kind=1;exact hk;exact absurd f1 (hraw.2 hk))
   rw[this]at f1 f2 f3 f4;simp only[Bool.or_eq_true,Bool.not_eq_true',Yk,decide_eq_false_iff_not]at f;rcases f4 with f4|f4
   ·have:=e1 f4;omega
   ·omega
  ·simp only[Bool.or_eq_false_iff,Bool.not_eq_false',Yk,decide_eq_false_iff_not]at f;obtain⟨⟨⟨f1,f2⟩,f3⟩,f4⟩:=f;have eS:ae L S=S:=hraw.1 f1;rw[eS]at e15;have fh:pw g (cK L (cM (ae L g.pos) 0) 15)=true:=by rw[e15,ur];exact⟨f1,by omega,by omega,.inr (by omega)⟩
   have he:=qY (show S.value<=9 by omega)
   have hd:=qB a1 he.1;have q1:jj S.value:=⟨by omega,by omega⟩
   have q2:nm (aY S.value):=by unfold nm;omega
   unfold bY at ha;have q3:aG IntKind.i64 (g.adr.tdiv (aY S.value)):=by simp only[aG,bY];omega
   have q4:aG IntKind.i64 (g.adr.tmod (aY S.value)):=by simp only[aG,bY];omega
   have q5:aG IntKind.i64 (g.dep+1):=by simp only[aG,bY];omega
   have kp:∀b,(decide ((ae L ((ah L g.pos.oid.toNat free).slots.at 14)).kind=6)&&decide (fk g.rts g.pos.rights 8<4))=b->uX (mQ g.rts g.pos.rights) (ae L ((ah L g.pos.oid.toNat free).slots.at 14)) g.kpr=if b then ae L ((ah L g.pos.oid.toNat free).slots.at 14)else g.kpr:=by
    intro b hb;unfold uX mQ;cases b
    ·simp only[Bool.and_eq_false_iff,decide_eq_false_iff_not]at hb;rw[Yp (by omega)];rfl
    ·simp only[Yj,Yk]at hb;rw[Yq hb];rfl
   have gs:∀s:¬g.adr.tdiv (aY S.value)<14,ij L (9-g.dep).toNat g=⟨2,void,0,uX (mQ g.rts g.pos.rights) (ae L ((ah L g.pos.oid.toNat free).slots.at 14)) g.kpr,0⟩:=fun s=>by
    have:=Bi d1 d2 v2' (by omega) fh (by rw[e15];exact s)
    rw[e14,pe]at this;exact this
   have gn:∀s:g.adr.tdiv (aY S.value)<14,mY L k a 99 ⟨cK L g.pos (g.adr.tdiv (aY S.value)),g.adr.tmod (aY S.value),mQ g.rts g.pos.rights,uX (mQ g.rts g.pos.rights) (ae L ((ah L g.pos.oid.toNat free).slots.at 14)) g.kpr,g.dep+1,S.value⟩/\
     nN ⟨cK L g.pos (g.adr.tdiv (aY S.value)),g.adr.tmod (aY S.value),mQ g.rts g.pos.rights,uX (mQ g.rts g.pos.rights) (ae L ((ah L g.pos.oid.toNat free).slots.at 14)) g.kpr,g.dep+1,S.value⟩<nN g:=fun s=>by
    have:=Nw hI v2' (by omega) fh (by rw[e15];exact s)
    unfold Iv at this;rw[e15,e14,pe]at this;exact this
   refine⟨fun c=>⟨q1,⟨q2,q3⟩,fun s=>?_,fun s=>⟨q1,⟨q2,q4⟩,?_,q5,_,(gn ?_).1,(gn ?_).2,?_⟩⟩,fun c=>⟨q1,⟨q2,q3⟩,fun s=>?_,fun s=>⟨q1,⟨q2,q4⟩,?_,q5,_,(gn ?_).1,(gn ?_).2,?_⟩⟩⟩
   ·have s:=Yn s;exact pg hI hE ((gs (by omega)).trans (by rw[kp _ c];rfl)) (by omega)
   ·have s:=Ym s;exact⟨hd.1,by omega,hall.2.1,hall.2.2.1⟩
   ·have s:=Ym s;omega
   ·have s:=Ym s;omega
   ·have:=kp _ c;repeat' apply And.intro
    all_goals first|with_reducible rfl|exact this.symm|rfl
   ·have s:=Yn s;exact pg hI hE ((gs (by omega)).trans (by rw[kp _ c];rfl)) (by omega)
   ·have s:=Ym s;exact⟨hd.1,by omega,hall.2.1,hall.2.2.1⟩
   ·have s:=Ym s;omega
   ·have s:=Ym s;omega
   ·have:=kp _ c;repeat' apply And.intro
    all_goals first|with_reducible rfl|exact this.symm|rfl
theorem L7 (L:List Sx.Obj) (k:Key) (a:Int) (ha:bY .i64 a) (hL:aq L):aj Tryz.prog 192 [.sa 0,.key k,.it .i64 a] [.ro (.arr none 163 (.ob L))] (mS (BT L k a)) (fun _ _=>False):=
 aV (inl:=bp) (ann:=(iB [(192,10,XU [0,2,4,6,7,8,9,13] (fun g=> [(10,.it .i64 g.adr),(11,.it .i64 g.rts),(12,.it .i64 g.hi),(14,.it .i64 g.dep)]) (fun g=> [(4,.blk tK (.key g.pos)),(5,.blk tK (.key g.kpr))]) (mY L k a 99) nN),(192,27,Xc [0,2,4,6,7,8,9,10,12,13,14,15] jS 8)])) (ab A5 (ab mC (ab qo (ab MQ (ab wD ak))))) (KA L k a ha hL) (by kernel_rfl)
theorem Kw:ck Tryz.prog 192 N9:=
 eW (aJ js (aJ gQ (aJ fm cF))) (fun _=>rfl) fun a hq hok=>by
  obtain⟨L,k,i,_⟩:=a;exact L7 L k i hok.2.2.1 hq
end Go.Proofs.YtghpaegglbbocaaGreat
