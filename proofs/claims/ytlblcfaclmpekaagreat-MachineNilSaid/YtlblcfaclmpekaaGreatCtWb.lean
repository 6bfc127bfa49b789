import Derived.Test.YtlblcfaclmpekaaGreatCtWa
import Derived.Test.YtlblcfaclmpekaaGreatCV
set_option linter.unusedSimpArgs false
set_option linter.unusedVariables false
namespace Go.Proofs.YtlblcfaclmpekaaGreat
open Go.Sx
set_option maxRecDepth 100000
theorem Kt:
 ∀(nid:Nat),some (V.mp nid)=some (V.mp nid)/\some [aA.mp IntKind.i64 [3,2] [V.fn 245 [],V.fn 246 []]]=some [aA.mp IntKind.i64 [3,2] [V.fn 245 [],V.fn 246 []]]:=by
 exact fun nid=>⟨rfl,rfl⟩
theorem Af:dA Tryz.prog 243 (x9 UE UA):=rX (π:= [0]) (by decide) (fun _=>rfl) (bL (inl:=cw) (ann:=aQ) aq ay Kt (by kernel_rfl))
theorem JH (k:Key) (a:Int) (ha:b7 .i64 a):
 true=true/\(decide (ah []=0)=true->void=cQ (aw [] k a)/\0=cK (aw [] k a)/\void=dh (aw [] k a)/\0=dS (aw [] k a)/\0=fc (aw [] k a)/\void=fP (aw [] k
  a)/\0=fM (aw [] k a) a/\1=dX [] k a)/\(decide (ah []=0)=false->((!decide (bM k=0)||aN k&&decide (ah []<=bE k))=true->void=cQ (aw [] k a)/\0=cK
  (aw [] k a)/\void=dh (aw [] k a)/\0=dS (aw [] k a)/\0=fc (aw [] k a)/\void=fP (aw [] k a)/\0=fM (aw [] k a) a/\2=dX [] k a)/\((!decide (bM k=0)||
  aN k&&decide (ah []<=bE k))=false->(decide (a<0)=true->void=cQ (aw [] k a)/\0=cK (aw [] k a)/\void=dh (aw [] k a)/\0=dS (aw [] k a)/\0=fc (aw []
  k a)/\void=fP (aw [] k a)/\0=fM (aw [] k a) a/\4=dX [] k a)/\(decide (a<0)=false->true=true/\(∃g,qf [] k a 0 g/\k=k/\void=void/\void=void/\void=void/\k=k
  /\Value.pointer none=Value.pointer none/\k=g.pos/\a=g.adr/\0=g.rts/\void=g.kpr/\0=g.dep/\0=g.hi/\false=false)/\∀(g:Wk),qf [] k a 0 g->true=true/\((!(decide ((ae []
  g.pos).kind=3)||decide ((ae [] g.pos).kind=2)))=true->((!decide (1=0))=true->void=cQ (aw [] k a)/\0=cK (aw [] k a)/\void=dh (aw [] k a)/\0=dS (aw [] k a)/\
  1=fc (aw [] k a)/\g.kpr=fP (aw [] k a)/\a=fM (aw [] k a) a/\0=dX [] k a)/\((!decide (1=0))=false->ae [] g.pos=cQ (aw [] k a)/\g.adr=cK (aw [] k a)/\
  g.kpr=dh (aw [] k a)/\g.dep=dS (aw [] k a)/\0=fc (aw [] k a)/\void=fP (aw [] k a)/\0=fM (aw [] k a) a/\0=dX [] k a))/\((!(decide ((ae [] g.pos).kind=3)||
  decide ((ae [] g.pos).kind=2)))=false->(decide ((ae [] g.pos).kind=3)=true->true=true/\true=true/\((!decide (g.adr<64))=true->((!decide (2=0))=true->void=cQ (aw
  [] k a)/\0=cK (aw [] k a)/\void=dh (aw [] k a)/\0=dS (aw [] k a)/\2=fc (aw [] k a)/\g.kpr=fP (aw [] k a)/\a=fM (aw [] k a) a/\0=dX [] k a)/\((!decide (2
  =0))=false->ae [] g.pos=cQ (aw [] k a)/\g.adr=cK (aw [] k a)/\g.kpr=dh (aw [] k a)/\g.dep=dS (aw [] k a)/\0=fc (aw [] k a)/\void=fP (aw [] k a)/\0=
  fM (aw [] k a) a/\0=dX [] k a))/\((!decide (g.adr<64))=false->((!decide (aS BinOp.and IntKind.i64 g.rts 3=0))=true->Key.mk (ae [] g.pos).kind (ae [] g.pos).oid (ae []
  g.pos).count (ae [] g.pos).call (aS BinOp.or IntKind.i64 (ae [] g.pos).rights 1) (ae [] g.pos).value=cQ (aw [] k a)/\g.adr=cK (aw [] k a)/\g.kpr=dh (aw [] k a)/\
  g.dep=dS (aw [] k a)/\0=fc (aw [] k a)/\void=fP (aw [] k a)/\0=fM (aw [] k a) a/\0=dX [] k a)/\((!decide (aS BinOp.and IntKind.i64 g.rts 3=0))=false->ae []
  g.pos=cQ (aw [] k a)/\g.adr=cK (aw [] k a)/\g.kpr=dh (aw [] k a)/\g.dep=dS (aw [] k a)/\0=fc (aw [] k a)/\void=fP (aw [] k a)/\0=fM (aw [] k a) a/\0=
  dX [] k a)))/\(decide ((ae [] g.pos).kind=3)=false->(decide ((ae [] g.pos).kind=2)=true->true=true/\true=true/\((!decide (g.dep<8))=true->((!decide (3=0))=true->
  void=cQ (aw [] k a)/\0=cK (aw [] k a)/\void=dh (aw [] k a)/\0=dS (aw [] k a)/\3=fc (aw [] k a)/\g.kpr=fP (aw [] k a)/\a=fM (aw [] k a) a/\0=dX [] k
  a)/\((!decide (3=0))=false->ae [] g.pos=cQ (aw [] k a)/\g.adr=cK (aw [] k a)/\g.kpr=dh (aw [] k a)/\g.dep=dS (aw [] k a)/\0=fc (aw [] k a)/\void=fP
  (aw [] k a)/\0=fM (aw [] k a) a/\0=dX [] k a))/\((!decide (g.dep<8))=false->true=true/\true=true/\((!(decide ((aH [] (Key.mk 2 (ae [] g.pos).oid (ae []
  g.pos).count void.call void.rights void.value) 15).kind=1)&&decide (1<=(aH [] (Key.mk 2 (ae [] g.pos).oid (ae [] g.pos).count void.call void.rights void.value) 15).value)&&decide
  ((aH [] (Key.mk 2 (ae [] g.pos).oid (ae [] g.pos).count void.call void.rights void.value) 15).value<=8)&&(decide (g.dep=0)||decide ((aH [] (Key.mk 2 (ae [] g.pos).oid (ae
  [] g.pos).count void.call void.rights void.value) 15).value<g.hi))))=true->((!decide (4=0))=true->void=cQ (aw [] k a)/\0=cK (aw [] k a)/\void=dh (aw [] k a)/\0=dS
  (aw [] k a)/\4=fc (aw [] k a)/\g.kpr=fP (aw [] k a)/\a=fM (aw [] k a) a/\0=dX [] k a)/\((!decide (4=0))=false->ae [] g.pos=cQ (aw [] k a)/\g.adr=cK
  (aw [] k a)/\g.kpr=dh (aw [] k a)/\g.dep=dS (aw [] k a)/\0=fc (aw [] k a)/\void=fP (aw [] k a)/\0=fM (aw [] k a) a/\0=dX [] k a))/\((!(decide ((aH []
  (Key.mk 2 (ae [] g.pos).oid (ae [] g.pos).count void.call void.rights void.value) 15).kind=1)&&decide (1<=(aH [] (Key.mk 2 (ae [] g.pos).oid (ae [] g.pos).count void.call
  void.rights void.value) 15).value)&&decide ((aH [] (Key.mk 2 (ae [] g.pos).oid (ae [] g.pos).count void.call void.rights void.value) 15).value<=8)&&(decide (g.dep=0)||decide
  ((aH [] (Key.mk 2 (ae [] g.pos).oid (ae [] g.pos).count void.call void.rights void.value) 15).value<g.hi))))=false->true=true/\((decide ((aH [] (Key.mk 2 (ae [] g.pos).oid
  (ae [] g.pos).count void.call void.rights void.value) 14).kind=6)&&decide (aS BinOp.and IntKind.i64 (aS BinOp.or IntKind.i64 g.rts (ae [] g.pos).rights) 4=0))=true->nk
  (aH [] (Key.mk 2 (ae [] g.pos).oid (ae [] g.pos).count void.call void.rights void.value) 15).value/\(Ds (bk (aH [] (Key.mk 2 (ae [] g.pos).oid (ae [] g.pos).count
  void.call void.rights void.value) 15).value)/\aL IntKind.i64 (g.adr.tdiv (bk (aH [] (Key.mk 2 (ae [] g.pos).oid (ae [] g.pos).count void.call void.rights void.value) 15).value)))/\
  true=true/\((!decide (g.adr.tdiv (bk (aH [] (Key.mk 2 (ae [] g.pos).oid (ae [] g.pos).count void.call void.rights void.value) 15).value)<14))=true->((!decide (2=0))=true->
  void=cQ (aw [] k a)/\0=cK (aw [] k a)/\void=dh (aw [] k a)/\0=dS (aw [] k a)/\2=fc (aw [] k a)/\aH [] (Key.mk 2 (ae [] g.pos).oid (ae [] g.pos).count
  void.call void.rights void.value) 14=fP (aw [] k a)/\a=fM (aw [] k a) a/\0=dX [] k a)/\((!decide (2=0))=false->ae [] g.pos=cQ (aw [] k a)/\g.adr=cK (aw [] k a)
  /\aH [] (Key.mk 2 (ae [] g.pos).oid (ae [] g.pos).count void.call void.rights void.value) 14=dh (aw [] k a)/\g.dep=dS (aw [] k a)/\0=fc (aw [] k a)/\void=fP (aw
  [] k a)/\0=fM (aw [] k a) a/\0=dX [] k a))/\((!decide (g.adr.tdiv (bk (aH [] (Key.mk 2 (ae [] g.pos).oid (ae [] g.pos).count void.call void.rights void.value) 15).value)<
  14))=false->aL IntKind.i64 (g.dep+1)/\(Ds (bk (aH [] (Key.mk 2 (ae [] g.pos).oid (ae [] g.pos).count void.call void.rights void.value) 15).value)/\aL IntKind.i64 (g.adr.tmod
  (bk (aH [] (Key.mk 2 (ae [] g.pos).oid (ae [] g.pos).count void.call void.rights void.value) 15).value)))/\∃g',qf [] k a 0 g'/\tq g'<tq g/\k=k/\void=void/\void=void
  /\void=void/\k=k/\Value.pointer none=Value.pointer none/\aH [] (ae [] g.pos) (g.adr.tdiv (bk (aH [] (Key.mk 2 (ae [] g.pos).oid (ae [] g.pos).count void.call
  void.rights void.value) 15).value))=g'.pos/\g.adr.tmod (bk (aH [] (Key.mk 2 (ae [] g.pos).oid (ae [] g.pos).count void.call void.rights void.value) 15).value)=g'.adr/\aS
  BinOp.or IntKind.i64 g.rts (ae [] g.pos).rights=g'.rts/\aH [] (Key.mk 2 (ae [] g.pos).oid (ae [] g.pos).count void.call void.rights void.value) 14=g'.kpr/\g.dep+1=g'.dep/\
  (aH [] (Key.mk 2 (ae [] g.pos).oid (ae [] g.pos).count void.call void.rights void.value) 15).value=g'.hi/\false=false))/\((decide ((aH [] (Key.mk 2 (ae [] g.pos).oid (ae
  [] g.pos).count void.call void.rights void.value) 14).kind=6)&&decide (aS BinOp.and IntKind.i64 (aS BinOp.or IntKind.i64 g.rts (ae [] g.pos).rights) 4=0))=false->nk (aH []
  (Key.mk 2 (ae [] g.pos).oid (ae [] g.pos).count void.call void.rights void.value) 15).value/\(Ds (bk (aH [] (Key.mk 2 (ae [] g.pos).oid (ae [] g.pos).count void.call
  void.rights void.value) 15).value)/\aL IntKind.i64 (g.adr.tdiv (bk (aH [] (Key.mk 2 (ae [] g.pos).oid (ae [] g.pos).count void.call void.rights void.value) 15).value)))/\true=true
  /\((!decide (g.adr.tdiv (bk (aH [] (Key.mk 2 (ae [] g.pos).oid (ae [] g.pos).count void.call void.rights void.value) 15).value)<14))=true->((!decide (2=0))=true->void=cQ
  (aw [] k a)/\0=cK (aw [] k a)/\void=dh (aw [] k a)/\0=dS (aw [] k a)/\2=fc (aw [] k a)/\g.kpr=fP (aw [] k a)/\a=fM (aw [] k a) a/\0=dX [] k a)/\
  ((!decide (2=0))=false->ae [] g.pos=cQ (aw [] k a)/\g.adr=cK (aw [] k a)/\g.kpr=dh (aw [] k a)/\g.dep=dS (aw [] k a)/\0=fc (aw [] k a)/\void=fP (aw []
  k a)/\0=fM (aw [] k a) a/\0=dX [] k a))/\((!decide (g.adr.tdiv (bk (aH [] (Key.mk 2 (ae [] g.pos).oid (ae [] g.pos).count void.call void.rights void.value) 15).value)<
  14))=false->aL IntKind.i64 (g.dep+1)/\(Ds (bk (aH [] (Key.mk 2 (ae [] g.pos).oid (ae [] g.pos).count void.call void.rights void.value) 15).value)/\aL IntKind.i64 (g.adr.tmod
  (bk (aH [] (Key.mk 2 (ae [] g.pos).oid (ae [] g.pos).count void.call void.rights void.value) 15).value)))/\∃g',qf [] k a 0 g'/\tq g'<tq g/\k=k/\void=void/\void=void
  /\void=void/\k=k/\Value.pointer none=Value.pointer none/\aH [] (ae [] g.pos) (g.adr.tdiv (bk (aH [] (Key.mk 2 (ae [] g.pos).oid (ae [] g.pos).count void.call
  void.rights void.value) 15).value))=g'.pos/\g.adr.tmod (bk (aH [] (Key.mk 2 (ae [] g.pos).oid (ae [] g.pos).count void.call void.rights void.value) 15).value)=g'.adr/\aS
  BinOp.or IntKind.i64 g.rts (ae [] g.pos).rights=g'.rts/\g.kpr=g'.kpr/\g.dep+1=g'.dep/\(aH [] (Key.mk 2 (ae [] g.pos).oid (ae [] g.pos).count void.call void.rights void.value)
  15).value=g'.hi/\false=false)))))/\(decide ((ae [] g.pos).kind=2)=false->False)))))):=by
 refine⟨rfl,fun h=>Dp (Th h) (by omega),fun h=>absurd h (by decide)⟩
theorem IJ (k:Key) (a:Int) (ha:b7 .i64 a):aj Tryz.prog 236 [kz,.key k,.it .i64 a] [] (qU (GD [] k a)) (fun _ _=>False):=
 aJ (inl:=(fun f=>f==235||f==241||f==244||f==245||f==246||f==247)) (ann:=(kW [(241,2,TW [0,2] (fun _=> []) 0 (fun g=> .blk tW (Ul (kz) g)) (qf [] k a 0) tq)])) (ab Af (ab aW (ab eV (ab cy (ab fJ (ab DJ (ab pM aq))))))) ay (cN DM) (JH k a ha) (by kernel_rfl)
theorem K7 (L:List Sx.Obj) (k:Key) (a:Int) (ha:b7 .i64 a):
 true=true/\(decide (ah L=0)=true->void=cQ (aw L k a)/\0=cK (aw L k a)/\void=dh (aw L k a)/\0=dS (aw L k a)/\0=fc (aw L k a)/\void=fP (aw L k a)/\0
  =fM (aw L k a) a/\1=dX L k a)/\(decide (ah L=0)=false->((!decide (bM k=0)||aN k&&decide (ah L<=bE k))=true->void=cQ (aw L k a)/\0=cK (aw L k a)
  /\void=dh (aw L k a)/\0=dS (aw L k a)/\0=fc (aw L k a)/\void=fP (aw L k a)/\0=fM (aw L k a) a/\2=dX L k a)/\((!decide (bM k=0)||aN k&&decide
  (ah L<=bE k))=false->(decide (a<0)=true->void=cQ (aw L k a)/\0=cK (aw L k a)/\void=dh (aw L k a)/\0=dS (aw L k a)/\0=fc (aw L k a)/\void=fP (aw
  L k a)/\0=fM (aw L k a) a/\4=dX L k a)/\(decide (a<0)=false->true=true/\(∃g,qf L k a 0 g/\L=L/\k=k/\void=void/\void=void/\void=void/\k=k/\k=g.pos/\a=
  g.adr/\0=g.rts/\void=g.kpr/\0=g.dep/\0=g.hi/\false=false)/\∀(g:Wk),qf L k a 0 g->true=true/\((!(decide ((ae L g.pos).kind=3)||decide ((ae L g.pos).kind=2)))=
  true->((!decide (1=0))=true->void=cQ (aw L k a)/\0=cK (aw L k a)/\void=dh (aw L k a)/\0=dS (aw L k a)/\1=fc (aw L k a)/\g.kpr=fP (aw L k a)/\a=fM
  (aw L k a) a/\0=dX L k a)/\((!decide (1=0))=false->ae L g.pos=cQ (aw L k a)/\g.adr=cK (aw L k a)/\g.kpr=dh (aw L k a)/\g.dep=dS (aw L k a)/\0=fc (aw L
  k a)/\void=fP (aw L k a)/\0=fM (aw L k a) a/\0=dX L k a))/\((!(decide ((ae L g.pos).kind=3)||decide ((ae L g.pos).kind=2)))=false->(decide ((ae L g.pos).kind=
  3)=true->true=true/\true=true/\((!decide (g.adr<64))=true->((!decide (2=0))=true->void=cQ (aw L k a)/\0=cK (aw L k a)/\void=dh (aw L k a)/\0=dS (aw L k a)
  /\2=fc (aw L k a)/\g.kpr=fP (aw L k a)/\a=fM (aw L k a) a/\0=dX L k a)/\((!decide (2=0))=false->ae L g.pos=cQ (aw L k a)/\g.adr=cK (aw L k a)/\g.kpr=
  dh (aw L k a)/\g.dep=dS (aw L k a)/\0=fc (aw L k a)/\void=fP (aw L k a)/\0=fM (aw L k a) a/\0=dX L k a))/\((!decide (g.adr<64))=false->((!decide (aS
  BinOp.and IntKind.i64 g.rts 3=0))=true->Key.mk (ae L g.pos).kind (ae L g.pos).oid (ae L g.pos).count (ae L g.pos).call (aS BinOp.or IntKind.i64 (ae L g.pos).rights 1)
  (ae L g.pos).value=cQ (aw L k a)/\g.adr=cK (aw L k a)/\g.kpr=dh (aw L k a)/\g.dep=dS (aw L k a)/\0=fc (aw L k a)/\void=fP (aw L k a)/\0=fM (aw L k a)
  a/\0=dX L k a)/\((!decide (aS BinOp.and IntKind.i64 g.rts 3=0))=false->ae L g.pos=cQ (aw L k a)/\g.adr=cK (aw L k a)/\g.kpr=dh (aw L k a)/\g.dep=dS (aw L k
  a)/\0=fc (aw L k a)/\void=fP (aw L k a)/\0=fM (aw L k a) a/\0=dX L k a)))/\(decide ((ae L g.pos).kind=3)=false->(decide ((ae L g.pos).kind=2)=true->true=
  true/\true=true/\((!decide (g.dep<8))=true->((!decide (3=0))=true->void=cQ (aw L k a)/\0=cK (aw L k a)/\void=dh (aw L k a)/\0=dS (aw L k a)/\3=fc (aw L k
  a)/\g.kpr=fP (aw L k a)/\a=fM (aw L k a) a/\0=dX L k a)/\((!decide (3=0))=false->ae L g.pos=cQ (aw L k a)/\g.adr=cK (aw L k a)/\g.kpr=dh (aw L k a)/\
  g.dep=dS (aw L k a)/\0=fc (aw L k a)/\void=fP (aw L k a)/\0=fM (aw L k a) a/\0=dX L k a))/\((!decide (g.dep<8))=false->true=true/\true=true/\((!(decide
  ((aH L (Key.mk 2 (ae L g.pos).oid (ae L g.pos).count void.call void.rights void.value) 15).kind=1)&&decide (1<=(aH L (Key.mk 2 (ae L g.pos).oid (ae L g.pos).count void.call
  void.rights void.value) 15).value)&&decide ((aH L (Key.mk 2 (ae L g.pos).oid (ae L g.pos).count void.call void.rights void.value) 15).value<=8)&&(decide (g.dep=0)||decide ((aH
  L (Key.mk 2 (ae L g.pos).oid (ae L g.pos).count void.call void.rights void.value) 15).value<g.hi))))=true->((!decide (4=0))=true->void=cQ (aw L k a)/\0=cK (aw L k a)/\
  void=dh (aw L k a)/\0=dS (aw L k a)/\4=fc (aw L k a)/\g.kpr=fP (aw L k a)/\a=fM (aw L k a) a/\0=dX L k a)/\((!decide (4=0))=false->ae L g.pos=cQ
  (aw L k a)/\g.adr=cK (aw L k a)/\g.kpr=dh (aw L k a)/\g.dep=dS (aw L k a)/\0=fc (aw L k a)/\void=fP (aw L k a)/\0=fM (aw L k a) a/\0=dX L k a))/\
  ((!(decide ((aH L (Key.mk 2 (ae L g.pos).oid (ae L g.pos).count void.call void.rights void.value) 15).kind=1)&&decide (1<=(aH L (Key.mk 2 (ae L g.pos).oid (ae L
  g.pos).count void.call void.rights void.value) 15).value)&&decide ((aH L (Key.mk 2 (ae L g.pos).oid (ae L g.pos).count void.call void.rights void.value) 15).value<=8)&&(decide (g.dep=
  0)||decide ((aH L (Key.mk 2 (ae L g.pos).oid (ae L g.pos).count void.call void.rights void.value) 15).value<g.hi))))=false->true=true/\((decide ((aH L (Key.mk 2 (ae L
  g.pos).oid (ae L g.pos).count void.call void.rights void.value) 14).kind=6)&&decide (aS BinOp.and IntKind.i64 (aS BinOp.or IntKind.i64 g.rts (ae L g.pos).rights) 4=0))=true->
  nk (aH L (Key.mk 2 (ae L g.pos).oid (ae L g.pos).count void.call void.rights void.value) 15).value/\(Ds (bk (aH L (Key.mk 2 (ae L g.pos).oid (ae L g.pos).count
  void.call void.rights void.value) 15).value)/\aL IntKind.i64 (g.adr.tdiv (bk (aH L (Key.mk 2 (ae L g.pos).oid (ae L g.pos).count void.call void.rights void.value) 15).value)))/\true
  =true/\((!decide (g.adr.tdiv (bk (aH L (Key.mk 2 (ae L g.pos).oid (ae L g.pos).count void.call void.rights void.value) 15).value)<14))=true->((!decide (2=0))=true->void=
  cQ (aw L k a)/\0=cK (aw L k a)/\void=dh (aw L k a)/\0=dS (aw L k a)/\2=fc (aw L k a)/\aH L (Key.mk 2 (ae L g.pos).oid (ae L g.pos).count void.call
  void.rights void.value) 14=fP (aw L k a)/\a=fM (aw L k a) a/\0=dX L k a)/\((!decide (2=0))=false->ae L g.pos=cQ (aw L k a)/\g.adr=cK (aw L k a)/\aH L
  (Key.mk 2 (ae L g.pos).oid (ae L g.pos).count void.call void.rights void.value) 14=dh (aw L k a)/\g.dep=dS (aw L k a)/\0=fc (aw L k a)/\void=fP (aw L k a)/\0=fM
  (aw L k a) a/\0=dX L k a))/\((!decide (g.adr.tdiv (bk (aH L (Key.mk 2 (ae L g.pos).oid (ae L g.pos).count void.call void.rights void.value) 15).value)<14))=false->aL
  IntKind.i64 (g.dep+1)/\(Ds (bk (aH L (Key.mk 2 (ae L g.pos).oid (ae L g.pos).count void.call void.rights void.value) 15).value)/\aL IntKind.i64 (g.adr.tmod (bk (aH L
  (Key.mk 2 (ae L g.pos).oid (ae L g.pos).count void.call void.rights void.value) 15).value)))/\∃g',qf L k a 0 g'/\tq g'<tq g/\L=L/\k=k/\void=void/\void=void/\void=void
  /\k=k/\aH L (ae L g.pos) (g.adr.tdiv (bk (aH L (Key.mk 2 (ae L g.pos).oid (ae L g.pos).count void.call void.rights void.value) 15).value))=g'.pos/\g.adr.tmod (bk
  (aH L (Key.mk 2 (ae L g.pos).oid (ae L g.pos).count void.call void.rights void.value) 15).value)=g'.adr/\aS BinOp.or IntKind.i64 g.rts (ae L g.pos).rights=g'.rts/\aH L
  (Key.mk 2 (ae L g.pos).oid (ae L g.pos).count void.call void.rights void.value) 14=g'.kpr/\g.dep+1=g'.dep/\(aH L (Key.mk 2 (ae L g.pos).oid (ae L g.pos).count void.call
  void.rights void.value) 15).value=g'.hi/\false=false))/\((decide ((aH L (Key.mk 2 (ae L g.pos).oid (ae L g.pos).count void.call void.rights void.value) 14).kind=6)&&decide (aS
  BinOp.and IntKind.i64 (aS BinOp.or IntKind.i64 g.rts (ae L g.pos).rights) 4=0))=false->nk (aH L (Key.mk 2 (ae L g.pos).oid (ae L g.pos).count void.call void.rights
  void.value) 15).value/\(Ds (bk (aH L (Key.mk 2 (ae L g.pos).oid (ae L g.pos).count void.call void.rights void.value) 15).value)/\aL IntKind.i64 (g.adr.tdiv (bk (aH L
  (Key.mk 2 (ae L g.pos).oid (ae L g.pos).count void.call void.rights void.value) 15).value)))/\true=true/\((!decide (g.adr.tdiv (bk (aH L (Key.mk 2 (ae L g.pos).oid (ae L
  g.pos).count void.call void.rights void.value) 15).value)<14))=true->((!decide (2=0))=true->void=cQ (aw L k a)/\0=cK (aw L k a)/\void=dh (aw L k a)/\0=dS (aw L k a)
  /\2=fc (aw L k a)/\g.kpr=fP (aw L k a)/\a=fM (aw L k a) a/\0=dX L k a)/\((!decide (2=0))=false->ae L g.pos=cQ (aw L k a)/\g.adr=cK (aw L k a)/\g.kpr=
  dh (aw L k a)/\g.dep=dS (aw L k a)/\0=fc (aw L k a)/\void=fP (aw L k a)/\0=fM (aw L k a) a/\0=dX L k a))/\((!decide (g.adr.tdiv (bk (aH L (Key.mk 2 (ae
  L g.pos).oid (ae L g.pos).count void.call void.rights void.value) 15).value)<14))=false->aL IntKind.i64 (g.dep+1)/\(Ds (bk (aH L (Key.mk 2 (ae L g.pos).oid (ae L
  g.pos).count void.call void.rights void.value) 15).value)/\aL IntKind.i64 (g.adr.tmod (bk (aH L (Key.mk 2 (ae L g.pos).oid (ae L g.pos).count void.call void.rights void.value)
  15).value)))/\∃g',qf L k a 0 g'/\tq g'<tq g/\L=L/\k=k/\void=void/\void=void/\void=void/\k=k/\aH L (ae L g.pos) (g.adr.tdiv (bk (aH L (Key.mk 2 (ae L
  g.pos).oid (ae L g.pos).count void.call void.rights void.value) 15).value))=g'.pos/\g.adr.tmod (bk (aH L (Key.mk 2 (ae L g.pos).oid (ae L g.pos).count void.call void.rights
  void.value) 15).value)=g'.adr/\aS BinOp.or IntKind.i64 g.rts (ae L g.pos).rights=g'.rts/\g.kpr=g'.kpr/\g.dep+1=g'.dep/\(aH L (Key.mk 2 (ae L g.pos).oid (ae L
  g.pos).count void.call void.rights void.value) 15).value=g'.hi/\false=false)))))/\(decide ((ae L g.pos).kind=2)=false->False)))))):=by
 refine⟨rfl,fun h=>Dp (Th h) (by omega),fun h=>⟨fun h2=>?_,fun h2=>⟨fun h3=>?_,fun h3=>⟨rfl,?_,fun g hI=>⟨rfl,?_⟩⟩⟩⟩⟩
 ·rw[xi,Bool.not_eq_true']at h2;exact Dp (by rw[Q9 h,h2];rfl) (by omega)
 ·rw[xi,Bool.not_eq_false']at h2;exact Dp (by rw[Q9 h,h2,U0 rfl,U0 (UX h3)]) (by omega)
 ·refine⟨vr k a 0,TZ (UW h3) 0,?_⟩;repeat' apply And.intro
  all_goals rfl
 rw[xi,Bool.not_eq_false']at h2;have hE:dX L k a=0:=by rw[Q9 h,h2,U0 rfl,UZ (UW h3)]
 clear h h2 h3;obtain⟨⟨a1,a2⟩,⟨r1,r2⟩,⟨d1,d2⟩,e1,e2,e3⟩:=id hI;refine⟨fun v=>⟨fun _=>?_,fun h=>absurd h (by decide)⟩,fun v=>⟨fun v3=>⟨rfl,rfl,fun b=>⟨fun _=>?_,fun h=>absurd h (by decide)⟩,fun b=>⟨fun ro=>?_,fun ro=>?_⟩⟩,fun v3=>⟨fun v2=>?_,fun v2=>?_⟩⟩⟩
 ·simp only[Bool.not_eq_true',Bool.or_eq_false_iff,decide_eq_false_iff_not]at v;exact yz hI hE (NH d1 d2 v.1 v.2) (by omega)
 ·have v3:=UX v3;exact yz hI hE (O6 d1 d2 v3 (by simpa using b)) (by omega)
 ·have v3:=UX v3;have hb:g.adr<64:=by simpa using b
  have hp:=gD (nm L g.pos);have hm:dZ (ae L g.pos).kind=1:=by rw[v3];rfl
  rw[Mt r1 r2]at ro;have ro:g.rts.tmod 4≠0:=by simpa using ro
  refine On hI hE ((Eo d1 d2 v3 hb).trans ?_);rw[AU hp.1 (by omega)]
  unfold oR;rw[UZ ro];rfl
 ·have v3:=UX v3;have hb:g.adr<64:=by simpa using b
  rw[Mt r1 r2]at ro;have ro:g.rts.tmod 4=0:=by simpa using ro
  refine On hI hE ((Eo d1 d2 v3 hb).trans ?_);unfold oR;rw[U0 ro]
 ·have v3:=UW v3;have v2:=UX v2;obtain⟨pe,pi⟩:=DB (.inl v2);have pi':aO L (ae L g.pos)=true:=by rw[pe];exact pi
  have hp:=o7 (nm L g.pos);have ho:=SM r1 r2 hp.1 hp.2;rw[KG (i:=15) pi' v2 (by omega) (by omega),KG (i:=14) pi' v2 (by omega) (by omega),ho.1,Ud ho.2.1 ho.2.2]
  refine⟨rfl,rfl,fun b=>⟨fun _=>?_,fun h=>absurd h (by decide)⟩,fun b=>⟨rfl,rfl,fun f=>⟨fun _=>?_,fun h=>absurd h (by decide)⟩,fun f=>⟨rfl,?_⟩⟩⟩
  ·exact yz hI hE (Qk d1 d2 v2 (by simpa using b)) (by omega)
  ·have b:g.dep<8:=by simpa using b
   exact yz hI hE (Ms d1 d2 v2 b (by unfold oU;rw[Bool.not_eq_true']at f;exact f)) (by omega)
  ·have b:g.dep<8:=by simpa using b
   have f:oU g (dT L (cg (ae L g.pos) 0) 15)=true:=by unfold oU;rw[Bool.not_eq_false']at f;exact f
   have hf':=zT.1 f;have he:=u4 (show(dT L (cg (ae L g.pos) 0) 15).value<=9 by omega)
   have hd:=tv a1 he.1;have q1:nk (dT L (cg (ae L g.pos) 0) 15).value:=⟨by omega,by omega⟩
   have q2:Ds (bk (dT L (cg (ae L g.pos) 0) 15).value):=by unfold Ds;omega
   unfold b7 at ha;have q3:aL IntKind.i64 (g.adr.tdiv (bk (dT L (cg (ae L g.pos) 0) 15).value)):=by simp only[aL,b7];omega
   have q4:aL IntKind.i64 (g.adr.tmod (bk (dT L (cg (ae L g.pos) 0) 15).value)):=by simp only[aL,b7];omega
   have q5:aL IntKind.i64 (g.dep+1):=by simp only[aL,b7];omega
   have kp:∀b,(decide ((dT L (cg (ae L g.pos) 0) 14).kind=6)&&decide (ri g.rts (ae L g.pos).rights<4))=b->AS (ri g.rts (ae L g.pos).rights) (dT L (cg (ae L g.pos) 0) 14) g.kpr=if b then dT L (cg (ae L g.pos) 0) 14 else g.kpr:=by
    intro b hb;unfold AS;cases b
    ·simp only[Bool.and_eq_false_iff,decide_eq_false_iff_not]at hb;rw[UZ (by omega)];rfl
    ·simp only[US,UT]at hb;rw[U0 hb];rfl
   refine⟨fun c=>⟨q1,⟨q2,q3⟩,rfl,fun s=>⟨fun _=>?_,fun h=>absurd h (by decide)⟩,fun s=>⟨q5,⟨q2,q4⟩,K2 L g,?_⟩⟩,fun c=>⟨q1,⟨q2,q3⟩,rfl,fun s=>⟨fun _=>?_,fun h=>absurd h (by decide)⟩,fun s=>⟨q5,⟨q2,q4⟩,K2 L g,?_⟩⟩⟩
   ·exact yz hI hE ((D3 d1 d2 v2 b f (by simpa using s)).trans (by rw[kp _ c];rfl)) (by omega)
   ·have s:g.adr.tdiv (bk (dT L (cg (ae L g.pos) 0) 15).value)<14:=by simpa using s
    obtain⟨n1,n2⟩:=Om hI v2 b f s;rw[Cp pi' v2 hd.1 (by omega)]
    refine⟨n1,n2,rfl,rfl,rfl,rfl,rfl,rfl,rfl,rfl,rfl,?_,rfl,rfl,rfl⟩;show _=AS _ _ _
    rw[kp _ c];rfl
   ·exact yz hI hE ((D3 d1 d2 v2 b f (by simpa using s)).trans (by rw[kp _ c];rfl)) (by omega)
   ·have s:g.adr.tdiv (bk (dT L (cg (ae L g.pos) 0) 15).value)<14:=by simpa using s
    obtain⟨n1,n2⟩:=Om hI v2 b f s;rw[Cp pi' v2 hd.1 (by omega)]
    refine⟨n1,n2,rfl,rfl,rfl,rfl,rfl,rfl,rfl,rfl,rfl,?_,rfl,rfl,rfl⟩;show _=AS _ _ _
    rw[kp _ c];rfl
 ·simp only[Bool.not_eq_false',Bool.or_eq_true,UT]at v;have v3:=UW v3;have v2:=UW v2;omega
theorem NQ (L:List Sx.Obj) (k:Key) (a:Int) (ha:b7 .i64 a):aj Tryz.prog 236 [.lp 0 0,.key k,.it .i64 a] [.ro (.store tS eS L)] (qU (GD L k a)) (fun _ _=>False):=
 aJ (inl:=(fun f=>f==235||f==241||f==244||f==245||f==246||f==247)) (ann:=(kW [(241,2,TW [0,2] (fun _=> []) 0 (fun g=> .blk tW (Ul (.lp 0 0) g)) (qf L k a 0) tq)])) (ab Af (ab aW (ab eV (ab cy (ab fJ (ab DJ (ab pM aq))))))) ay (cN DM) (K7 L k a ha) (by kernel_rfl)
theorem Dk:dA Tryz.prog 236 Pe:=
 jB (aK qs (aK lZ (aK fE dP))) (fun _=>rfl) fun a hq hok=>by
  obtain⟨S,k,i,_⟩:=a;cases S with
  |none=>exact IJ k i hok.2.2.1
  |some L=>exact NQ L k i hok.2.2.1
end Go.Proofs.YtlblcfaclmpekaaGreat
