import Derived.Test.YtlblcfaclmpekaaGreatCtWa
import Derived.Test.YtlblcfaclmpekaaGreatCV
set_option linter.unusedSimpArgs false
set_option linter.unusedVariables false
namespace Go.Proofs.YtlblcfaclmpekaaGreat
open Go.Sx
set_option maxRecDepth 100000
theorem GX:
 ∀(nid:Nat),some (V.mp nid)=some (V.mp nid)/\some [aB.mp IntKind.i64 [3,2] [V.fn 245 [],V.fn 246 []]]=some [aB.mp IntKind.i64 [3,2] [V.fn 245 [],V.fn 246 []]]:=by
 exact fun nid=>⟨rfl,rfl⟩
theorem Bx:dC Tryz.prog 243 (yO Vx Vu):=rJ (π:= [0]) (by decide) (fun _=>rfl) (bP (inl:=ca) (ann:=aR) au aA GX (by kernel_rfl))
theorem Hv (k:Key) (a:Int) (ha:cj .i64 a):
 true=true/\(decide (ah []=0)=true->void=c9 (ay [] k a)/\0=cS (ay [] k a)/\void=dB (ay [] k a)/\0=dZ (ay [] k a)/\0=fq (ay [] k a)/\void=fU (ay [] k
  a)/\0=fX (ay [] k a) a/\1=eh [] k a)/\(decide (ah []=0)=false->((!decide (bT k=0)||aP k&&decide (ah []<=bH k))=true->void=c9 (ay [] k a)/\0=cS
  (ay [] k a)/\void=dB (ay [] k a)/\0=dZ (ay [] k a)/\0=fq (ay [] k a)/\void=fU (ay [] k a)/\0=fX (ay [] k a) a/\2=eh [] k a)/\((!decide (bT k=0)||
  aP k&&decide (ah []<=bH k))=false->(decide (a<0)=true->void=c9 (ay [] k a)/\0=cS (ay [] k a)/\void=dB (ay [] k a)/\0=dZ (ay [] k a)/\0=fq (ay []
  k a)/\void=fU (ay [] k a)/\0=fX (ay [] k a) a/\4=eh [] k a)/\(decide (a<0)=false->true=true/\(∃g,qx [] k a 0 g/\k=k/\void=void/\void=void/\void=void/\k=k
  /\Value.pointer none=Value.pointer none/\k=g.pos/\a=g.adr/\0=g.rts/\void=g.kpr/\0=g.dep/\0=g.hi/\false=false)/\∀(g:Wk),qx [] k a 0 g->true=true/\((!(decide ((ae []
  g.pos).kind=3)||decide ((ae [] g.pos).kind=2)))=true->((!decide (1=0))=true->void=c9 (ay [] k a)/\0=cS (ay [] k a)/\void=dB (ay [] k a)/\0=dZ (ay [] k a)/\
  1=fq (ay [] k a)/\g.kpr=fU (ay [] k a)/\a=fX (ay [] k a) a/\0=eh [] k a)/\((!decide (1=0))=false->ae [] g.pos=c9 (ay [] k a)/\g.adr=cS (ay [] k a)/\
  g.kpr=dB (ay [] k a)/\g.dep=dZ (ay [] k a)/\0=fq (ay [] k a)/\void=fU (ay [] k a)/\0=fX (ay [] k a) a/\0=eh [] k a))/\((!(decide ((ae [] g.pos).kind=3)||
  decide ((ae [] g.pos).kind=2)))=false->(decide ((ae [] g.pos).kind=3)=true->true=true/\true=true/\((!decide (g.adr<64))=true->((!decide (2=0))=true->void=c9 (ay
  [] k a)/\0=cS (ay [] k a)/\void=dB (ay [] k a)/\0=dZ (ay [] k a)/\2=fq (ay [] k a)/\g.kpr=fU (ay [] k a)/\a=fX (ay [] k a) a/\0=eh [] k a)/\((!decide (2
  =0))=false->ae [] g.pos=c9 (ay [] k a)/\g.adr=cS (ay [] k a)/\g.kpr=dB (ay [] k a)/\g.dep=dZ (ay [] k a)/\0=fq (ay [] k a)/\void=fU (ay [] k a)/\0=
  fX (ay [] k a) a/\0=eh [] k a))/\((!decide (g.adr<64))=false->((!decide (aV BinOp.and IntKind.i64 g.rts 3=0))=true->Key.mk (ae [] g.pos).kind (ae [] g.pos).oid (ae []
  g.pos).count (ae [] g.pos).call (aV BinOp.or IntKind.i64 (ae [] g.pos).rights 1) (ae [] g.pos).value=c9 (ay [] k a)/\g.adr=cS (ay [] k a)/\g.kpr=dB (ay [] k a)/\
  g.dep=dZ (ay [] k a)/\0=fq (ay [] k a)/\void=fU (ay [] k a)/\0=fX (ay [] k a) a/\0=eh [] k a)/\((!decide (aV BinOp.and IntKind.i64 g.rts 3=0))=false->ae []
  g.pos=c9 (ay [] k a)/\g.adr=cS (ay [] k a)/\g.kpr=dB (ay [] k a)/\g.dep=dZ (ay [] k a)/\0=fq (ay [] k a)/\void=fU (ay [] k a)/\0=fX (ay [] k a) a/\0=
  eh [] k a)))/\(decide ((ae [] g.pos).kind=3)=false->(decide ((ae [] g.pos).kind=2)=true->true=true/\true=true/\((!decide (g.dep<8))=true->((!decide (3=0))=true->
  void=c9 (ay [] k a)/\0=cS (ay [] k a)/\void=dB (ay [] k a)/\0=dZ (ay [] k a)/\3=fq (ay [] k a)/\g.kpr=fU (ay [] k a)/\a=fX (ay [] k a) a/\0=eh [] k
  a)/\((!decide (3=0))=false->ae [] g.pos=c9 (ay [] k a)/\g.adr=cS (ay [] k a)/\g.kpr=dB (ay [] k a)/\g.dep=dZ (ay [] k a)/\0=fq (ay [] k a)/\void=fU
  (ay [] k a)/\0=fX (ay [] k a) a/\0=eh [] k a))/\((!decide (g.dep<8))=false->true=true/\true=true/\((!(decide ((aJ [] (Key.mk 2 (ae [] g.pos).oid (ae []
  g.pos).count void.call void.rights void.value) 15).kind=1)&&decide (1<=(aJ [] (Key.mk 2 (ae [] g.pos).oid (ae [] g.pos).count void.call void.rights void.value) 15).value)&&decide
  ((aJ [] (Key.mk 2 (ae [] g.pos).oid (ae [] g.pos).count void.call void.rights void.value) 15).value<=8)&&(decide (g.dep=0)||decide ((aJ [] (Key.mk 2 (ae [] g.pos).oid (ae
  [] g.pos).count void.call void.rights void.value) 15).value<g.hi))))=true->((!decide (4=0))=true->void=c9 (ay [] k a)/\0=cS (ay [] k a)/\void=dB (ay [] k a)/\0=dZ
  (ay [] k a)/\4=fq (ay [] k a)/\g.kpr=fU (ay [] k a)/\a=fX (ay [] k a) a/\0=eh [] k a)/\((!decide (4=0))=false->ae [] g.pos=c9 (ay [] k a)/\g.adr=cS
  (ay [] k a)/\g.kpr=dB (ay [] k a)/\g.dep=dZ (ay [] k a)/\0=fq (ay [] k a)/\void=fU (ay [] k a)/\0=fX (ay [] k a) a/\0=eh [] k a))/\((!(decide ((aJ []
  (Key.mk 2 (ae [] g.pos).oid (ae [] g.pos).count void.call void.rights void.value) 15).kind=1)&&decide (1<=(aJ [] (Key.mk 2 (ae [] g.pos).oid (ae [] g.pos).count void.call
  void.rights void.value) 15).value)&&decide ((aJ [] (Key.mk 2 (ae [] g.pos).oid (ae [] g.pos).count void.call void.rights void.value) 15).value<=8)&&(decide (g.dep=0)||decide
  ((aJ [] (Key.mk 2 (ae [] g.pos).oid (ae [] g.pos).count void.call void.rights void.value) 15).value<g.hi))))=false->true=true/\((decide ((aJ [] (Key.mk 2 (ae [] g.pos).oid
  (ae [] g.pos).count void.call void.rights void.value) 14).kind=6)&&decide (aV BinOp.and IntKind.i64 (aV BinOp.or IntKind.i64 g.rts (ae [] g.pos).rights) 4=0))=true->nT
  (aJ [] (Key.mk 2 (ae [] g.pos).oid (ae [] g.pos).count void.call void.rights void.value) 15).value/\(Eb (bw (aJ [] (Key.mk 2 (ae [] g.pos).oid (ae [] g.pos).count
  void.call void.rights void.value) 15).value)/\aM IntKind.i64 (g.adr.tdiv (bw (aJ [] (Key.mk 2 (ae [] g.pos).oid (ae [] g.pos).count void.call void.rights void.value) 15).value)))/\
  true=true/\((!decide (g.adr.tdiv (bw (aJ [] (Key.mk 2 (ae [] g.pos).oid (ae [] g.pos).count void.call void.rights void.value) 15).value)<14))=true->((!decide (2=0))=true->
  void=c9 (ay [] k a)/\0=cS (ay [] k a)/\void=dB (ay [] k a)/\0=dZ (ay [] k a)/\2=fq (ay [] k a)/\aJ [] (Key.mk 2 (ae [] g.pos).oid (ae [] g.pos).count
  void.call void.rights void.value) 14=fU (ay [] k a)/\a=fX (ay [] k a) a/\0=eh [] k a)/\((!decide (2=0))=false->ae [] g.pos=c9 (ay [] k a)/\g.adr=cS (ay [] k a)
  /\aJ [] (Key.mk 2 (ae [] g.pos).oid (ae [] g.pos).count void.call void.rights void.value) 14=dB (ay [] k a)/\g.dep=dZ (ay [] k a)/\0=fq (ay [] k a)/\void=fU (ay
  [] k a)/\0=fX (ay [] k a) a/\0=eh [] k a))/\((!decide (g.adr.tdiv (bw (aJ [] (Key.mk 2 (ae [] g.pos).oid (ae [] g.pos).count void.call void.rights void.value) 15).value)<
  14))=false->aM IntKind.i64 (g.dep+1)/\(Eb (bw (aJ [] (Key.mk 2 (ae [] g.pos).oid (ae [] g.pos).count void.call void.rights void.value) 15).value)/\aM IntKind.i64 (g.adr.tmod
  (bw (aJ [] (Key.mk 2 (ae [] g.pos).oid (ae [] g.pos).count void.call void.rights void.value) 15).value)))/\∃g',qx [] k a 0 g'/\tA g'<tA g/\k=k/\void=void/\void=void
  /\void=void/\k=k/\Value.pointer none=Value.pointer none/\aJ [] (ae [] g.pos) (g.adr.tdiv (bw (aJ [] (Key.mk 2 (ae [] g.pos).oid (ae [] g.pos).count void.call
  void.rights void.value) 15).value))=g'.pos/\g.adr.tmod (bw (aJ [] (Key.mk 2 (ae [] g.pos).oid (ae [] g.pos).count void.call void.rights void.value) 15).value)=g'.adr/\aV
  BinOp.or IntKind.i64 g.rts (ae [] g.pos).rights=g'.rts/\aJ [] (Key.mk 2 (ae [] g.pos).oid (ae [] g.pos).count void.call void.rights void.value) 14=g'.kpr/\g.dep+1=g'.dep/\
  (aJ [] (Key.mk 2 (ae [] g.pos).oid (ae [] g.pos).count void.call void.rights void.value) 15).value=g'.hi/\false=false))/\((decide ((aJ [] (Key.mk 2 (ae [] g.pos).oid (ae
  [] g.pos).count void.call void.rights void.value) 14).kind=6)&&decide (aV BinOp.and IntKind.i64 (aV BinOp.or IntKind.i64 g.rts (ae [] g.pos).rights) 4=0))=false->nT (aJ []
  (Key.mk 2 (ae [] g.pos).oid (ae [] g.pos).count void.call void.rights void.value) 15).value/\(Eb (bw (aJ [] (Key.mk 2 (ae [] g.pos).oid (ae [] g.pos).count void.call
  void.rights void.value) 15).value)/\aM IntKind.i64 (g.adr.tdiv (bw (aJ [] (Key.mk 2 (ae [] g.pos).oid (ae [] g.pos).count void.call void.rights void.value) 15).value)))/\true=true
  /\((!decide (g.adr.tdiv (bw (aJ [] (Key.mk 2 (ae [] g.pos).oid (ae [] g.pos).count void.call void.rights void.value) 15).value)<14))=true->((!decide (2=0))=true->void=c9
  (ay [] k a)/\0=cS (ay [] k a)/\void=dB (ay [] k a)/\0=dZ (ay [] k a)/\2=fq (ay [] k a)/\g.kpr=fU (ay [] k a)/\a=fX (ay [] k a) a/\0=eh [] k a)/\
  ((!decide (2=0))=false->ae [] g.pos=c9 (ay [] k a)/\g.adr=cS (ay [] k a)/\g.kpr=dB (ay [] k a)/\g.dep=dZ (ay [] k a)/\0=fq (ay [] k a)/\void=fU (ay []
  k a)/\0=fX (ay [] k a) a/\0=eh [] k a))/\((!decide (g.adr.tdiv (bw (aJ [] (Key.mk 2 (ae [] g.pos).oid (ae [] g.pos).count void.call void.rights void.value) 15).value)<
  14))=false->aM IntKind.i64 (g.dep+1)/\(Eb (bw (aJ [] (Key.mk 2 (ae [] g.pos).oid (ae [] g.pos).count void.call void.rights void.value) 15).value)/\aM IntKind.i64 (g.adr.tmod
  (bw (aJ [] (Key.mk 2 (ae [] g.pos).oid (ae [] g.pos).count void.call void.rights void.value) 15).value)))/\∃g',qx [] k a 0 g'/\tA g'<tA g/\k=k/\void=void/\void=void
  /\void=void/\k=k/\Value.pointer none=Value.pointer none/\aJ [] (ae [] g.pos) (g.adr.tdiv (bw (aJ [] (Key.mk 2 (ae [] g.pos).oid (ae [] g.pos).count void.call
  void.rights void.value) 15).value))=g'.pos/\g.adr.tmod (bw (aJ [] (Key.mk 2 (ae [] g.pos).oid (ae [] g.pos).count void.call void.rights void.value) 15).value)=g'.adr/\aV
  BinOp.or IntKind.i64 g.rts (ae [] g.pos).rights=g'.rts/\g.kpr=g'.kpr/\g.dep+1=g'.dep/\(aJ [] (Key.mk 2 (ae [] g.pos).oid (ae [] g.pos).count void.call void.rights void.value)
  15).value=g'.hi/\false=false)))))/\(decide ((ae [] g.pos).kind=2)=false->False)))))):=by
 refine⟨rfl,fun h=>Ev (TW h) (by omega),fun h=>absurd h (by decide)⟩
theorem Jy (k:Key) (a:Int) (ha:cj .i64 a):aj Tryz.prog 236 [gX,.key k,.it .i64 a] [] (nI (GZ [] k a)) (fun _ _=>False):=
 aL (inl:=(fun f=>f==235||f==241||f==244||f==245||f==246||f==247)) (ann:=(kV [(241,2,UE [0,2] (fun _=> []) 0 (fun g=> .blk tW (U5 (gX) g)) (qx [] k a 0) tA)])) (ab Bx (ab ba (ab fh (ab cF (ab fR (ab EI (ab qt au))))))) aA (cZ DK) (Hv k a ha) (by kernel_rfl)
theorem Od (L:List Sx.Obj) (k:Key) (a:Int) (ha:cj .i64 a):
 true=true/\(decide (ah L=0)=true->void=c9 (ay L k a)/\0=cS (ay L k a)/\void=dB (ay L k a)/\0=dZ (ay L k a)/\0=fq (ay L k a)/\void=fU (ay L k a)/\0
  =fX (ay L k a) a/\1=eh L k a)/\(decide (ah L=0)=false->((!decide (bT k=0)||aP k&&decide (ah L<=bH k))=true->void=c9 (ay L k a)/\0=cS (ay L k a)
  /\void=dB (ay L k a)/\0=dZ (ay L k a)/\0=fq (ay L k a)/\void=fU (ay L k a)/\0=fX (ay L k a) a/\2=eh L k a)/\((!decide (bT k=0)||aP k&&decide
  (ah L<=bH k))=false->(decide (a<0)=true->void=c9 (ay L k a)/\0=cS (ay L k a)/\void=dB (ay L k a)/\0=dZ (ay L k a)/\0=fq (ay L k a)/\void=fU (ay
  L k a)/\0=fX (ay L k a) a/\4=eh L k a)/\(decide (a<0)=false->true=true/\(∃g,qx L k a 0 g/\L=L/\k=k/\void=void/\void=void/\void=void/\k=k/\k=g.pos/\a=
  g.adr/\0=g.rts/\void=g.kpr/\0=g.dep/\0=g.hi/\false=false)/\∀(g:Wk),qx L k a 0 g->true=true/\((!(decide ((ae L g.pos).kind=3)||decide ((ae L g.pos).kind=2)))=
  true->((!decide (1=0))=true->void=c9 (ay L k a)/\0=cS (ay L k a)/\void=dB (ay L k a)/\0=dZ (ay L k a)/\1=fq (ay L k a)/\g.kpr=fU (ay L k a)/\a=fX
  (ay L k a) a/\0=eh L k a)/\((!decide (1=0))=false->ae L g.pos=c9 (ay L k a)/\g.adr=cS (ay L k a)/\g.kpr=dB (ay L k a)/\g.dep=dZ (ay L k a)/\0=fq (ay L
  k a)/\void=fU (ay L k a)/\0=fX (ay L k a) a/\0=eh L k a))/\((!(decide ((ae L g.pos).kind=3)||decide ((ae L g.pos).kind=2)))=false->(decide ((ae L g.pos).kind=
  3)=true->true=true/\true=true/\((!decide (g.adr<64))=true->((!decide (2=0))=true->void=c9 (ay L k a)/\0=cS (ay L k a)/\void=dB (ay L k a)/\0=dZ (ay L k a)
  /\2=fq (ay L k a)/\g.kpr=fU (ay L k a)/\a=fX (ay L k a) a/\0=eh L k a)/\((!decide (2=0))=false->ae L g.pos=c9 (ay L k a)/\g.adr=cS (ay L k a)/\g.kpr=
  dB (ay L k a)/\g.dep=dZ (ay L k a)/\0=fq (ay L k a)/\void=fU (ay L k a)/\0=fX (ay L k a) a/\0=eh L k a))/\((!decide (g.adr<64))=false->((!decide (aV
  BinOp.and IntKind.i64 g.rts 3=0))=true->Key.mk (ae L g.pos).kind (ae L g.pos).oid (ae L g.pos).count (ae L g.pos).call (aV BinOp.or IntKind.i64 (ae L g.pos).rights 1)
  (ae L g.pos).value=c9 (ay L k a)/\g.adr=cS (ay L k a)/\g.kpr=dB (ay L k a)/\g.dep=dZ (ay L k a)/\0=fq (ay L k a)/\void=fU (ay L k a)/\0=fX (ay L k a)
  a/\0=eh L k a)/\((!decide (aV BinOp.and IntKind.i64 g.rts 3=0))=false->ae L g.pos=c9 (ay L k a)/\g.adr=cS (ay L k a)/\g.kpr=dB (ay L k a)/\g.dep=dZ (ay L k
  a)/\0=fq (ay L k a)/\void=fU (ay L k a)/\0=fX (ay L k a) a/\0=eh L k a)))/\(decide ((ae L g.pos).kind=3)=false->(decide ((ae L g.pos).kind=2)=true->true=
  true/\true=true/\((!decide (g.dep<8))=true->((!decide (3=0))=true->void=c9 (ay L k a)/\0=cS (ay L k a)/\void=dB (ay L k a)/\0=dZ (ay L k a)/\3=fq (ay L k
  a)/\g.kpr=fU (ay L k a)/\a=fX (ay L k a) a/\0=eh L k a)/\((!decide (3=0))=false->ae L g.pos=c9 (ay L k a)/\g.adr=cS (ay L k a)/\g.kpr=dB (ay L k a)/\
  g.dep=dZ (ay L k a)/\0=fq (ay L k a)/\void=fU (ay L k a)/\0=fX (ay L k a) a/\0=eh L k a))/\((!decide (g.dep<8))=false->true=true/\true=true/\((!(decide
  ((aJ L (Key.mk 2 (ae L g.pos).oid (ae L g.pos).count void.call void.rights void.value) 15).kind=1)&&decide (1<=(aJ L (Key.mk 2 (ae L g.pos).oid (ae L g.pos).count void.call
  void.rights void.value) 15).value)&&decide ((aJ L (Key.mk 2 (ae L g.pos).oid (ae L g.pos).count void.call void.rights void.value) 15).value<=8)&&(decide (g.dep=0)||decide ((aJ
  L (Key.mk 2 (ae L g.pos).oid (ae L g.pos).count void.call void.rights void.value) 15).value<g.hi))))=true->((!decide (4=0))=true->void=c9 (ay L k a)/\0=cS (ay L k a)/\
  void=dB (ay L k a)/\0=dZ (ay L k a)/\4=fq (ay L k a)/\g.kpr=fU (ay L k a)/\a=fX (ay L k a) a/\0=eh L k a)/\((!decide (4=0))=false->ae L g.pos=c9
  (ay L k a)/\g.adr=cS (ay L k a)/\g.kpr=dB (ay L k a)/\g.dep=dZ (ay L k a)/\0=fq (ay L k a)/\void=fU (ay L k a)/\0=fX (ay L k a) a/\0=eh L k a))/\
  ((!(decide ((aJ L (Key.mk 2 (ae L g.pos).oid (ae L g.pos).count void.call void.rights void.value) 15).kind=1)&&decide (1<=(aJ L (Key.mk 2 (ae L g.pos).oid (ae L
  g.pos).count void.call void.rights void.value) 15).value)&&decide ((aJ L (Key.mk 2 (ae L g.pos).oid (ae L g.pos).count void.call void.rights void.value) 15).value<=8)&&(decide (g.dep=
  0)||decide ((aJ L (Key.mk 2 (ae L g.pos).oid (ae L g.pos).count void.call void.rights void.value) 15).value<g.hi))))=false->true=true/\((decide ((aJ L (Key.mk 2 (ae L
  g.pos).oid (ae L g.pos).count void.call void.rights void.value) 14).kind=6)&&decide (aV BinOp.and IntKind.i64 (aV BinOp.or IntKind.i64 g.rts (ae L g.pos).rights) 4=0))=true->
  nT (aJ L (Key.mk 2 (ae L g.pos).oid (ae L g.pos).count void.call void.rights void.value) 15).value/\(Eb (bw (aJ L (Key.mk 2 (ae L g.pos).oid (ae L g.pos).count
  void.call void.rights void.value) 15).value)/\aM IntKind.i64 (g.adr.tdiv (bw (aJ L (Key.mk 2 (ae L g.pos).oid (ae L g.pos).count void.call void.rights void.value) 15).value)))/\true
  =true/\((!decide (g.adr.tdiv (bw (aJ L (Key.mk 2 (ae L g.pos).oid (ae L g.pos).count void.call void.rights void.value) 15).value)<14))=true->((!decide (2=0))=true->void=
  c9 (ay L k a)/\0=cS (ay L k a)/\void=dB (ay L k a)/\0=dZ (ay L k a)/\2=fq (ay L k a)/\aJ L (Key.mk 2 (ae L g.pos).oid (ae L g.pos).count void.call
  void.rights void.value) 14=fU (ay L k a)/\a=fX (ay L k a) a/\0=eh L k a)/\((!decide (2=0))=false->ae L g.pos=c9 (ay L k a)/\g.adr=cS (ay L k a)/\aJ L
  (Key.mk 2 (ae L g.pos).oid (ae L g.pos).count void.call void.rights void.value) 14=dB (ay L k a)/\g.dep=dZ (ay L k a)/\0=fq (ay L k a)/\void=fU (ay L k a)/\0=fX
  (ay L k a) a/\0=eh L k a))/\((!decide (g.adr.tdiv (bw (aJ L (Key.mk 2 (ae L g.pos).oid (ae L g.pos).count void.call void.rights void.value) 15).value)<14))=false->aM
  IntKind.i64 (g.dep+1)/\(Eb (bw (aJ L (Key.mk 2 (ae L g.pos).oid (ae L g.pos).count void.call void.rights void.value) 15).value)/\aM IntKind.i64 (g.adr.tmod (bw (aJ L
  (Key.mk 2 (ae L g.pos).oid (ae L g.pos).count void.call void.rights void.value) 15).value)))/\∃g',qx L k a 0 g'/\tA g'<tA g/\L=L/\k=k/\void=void/\void=void/\void=void
  /\k=k/\aJ L (ae L g.pos) (g.adr.tdiv (bw (aJ L (Key.mk 2 (ae L g.pos).oid (ae L g.pos).count void.call void.rights void.value) 15).value))=g'.pos/\g.adr.tmod (bw
  (aJ L (Key.mk 2 (ae L g.pos).oid (ae L g.pos).count void.call void.rights void.value) 15).value)=g'.adr/\aV BinOp.or IntKind.i64 g.rts (ae L g.pos).rights=g'.rts/\aJ L
  (Key.mk 2 (ae L g.pos).oid (ae L g.pos).count void.call void.rights void.value) 14=g'.kpr/\g.dep+1=g'.dep/\(aJ L (Key.mk 2 (ae L g.pos).oid (ae L g.pos).count void.call
  void.rights void.value) 15).value=g'.hi/\false=false))/\((decide ((aJ L (Key.mk 2 (ae L g.pos).oid (ae L g.pos).count void.call void.rights void.value) 14).kind=6)&&decide (aV
  BinOp.and IntKind.i64 (aV BinOp.or IntKind.i64 g.rts (ae L g.pos).rights) 4=0))=false->nT (aJ L (Key.mk 2 (ae L g.pos).oid (ae L g.pos).count void.call void.rights
  void.value) 15).value/\(Eb (bw (aJ L (Key.mk 2 (ae L g.pos).oid (ae L g.pos).count void.call void.rights void.value) 15).value)/\aM IntKind.i64 (g.adr.tdiv (bw (aJ L
  (Key.mk 2 (ae L g.pos).oid (ae L g.pos).count void.call void.rights void.value) 15).value)))/\true=true/\((!decide (g.adr.tdiv (bw (aJ L (Key.mk 2 (ae L g.pos).oid (ae L
  g.pos).count void.call void.rights void.value) 15).value)<14))=true->((!decide (2=0))=true->void=c9 (ay L k a)/\0=cS (ay L k a)/\void=dB (ay L k a)/\0=dZ (ay L k a)
  /\2=fq (ay L k a)/\g.kpr=fU (ay L k a)/\a=fX (ay L k a) a/\0=eh L k a)/\((!decide (2=0))=false->ae L g.pos=c9 (ay L k a)/\g.adr=cS (ay L k a)/\g.kpr=
  dB (ay L k a)/\g.dep=dZ (ay L k a)/\0=fq (ay L k a)/\void=fU (ay L k a)/\0=fX (ay L k a) a/\0=eh L k a))/\((!decide (g.adr.tdiv (bw (aJ L (Key.mk 2 (ae
  L g.pos).oid (ae L g.pos).count void.call void.rights void.value) 15).value)<14))=false->aM IntKind.i64 (g.dep+1)/\(Eb (bw (aJ L (Key.mk 2 (ae L g.pos).oid (ae L
  g.pos).count void.call void.rights void.value) 15).value)/\aM IntKind.i64 (g.adr.tmod (bw (aJ L (Key.mk 2 (ae L g.pos).oid (ae L g.pos).count void.call void.rights void.value)
  15).value)))/\∃g',qx L k a 0 g'/\tA g'<tA g/\L=L/\k=k/\void=void/\void=void/\void=void/\k=k/\aJ L (ae L g.pos) (g.adr.tdiv (bw (aJ L (Key.mk 2 (ae L
  g.pos).oid (ae L g.pos).count void.call void.rights void.value) 15).value))=g'.pos/\g.adr.tmod (bw (aJ L (Key.mk 2 (ae L g.pos).oid (ae L g.pos).count void.call void.rights
  void.value) 15).value)=g'.adr/\aV BinOp.or IntKind.i64 g.rts (ae L g.pos).rights=g'.rts/\g.kpr=g'.kpr/\g.dep+1=g'.dep/\(aJ L (Key.mk 2 (ae L g.pos).oid (ae L
  g.pos).count void.call void.rights void.value) 15).value=g'.hi/\false=false)))))/\(decide ((ae L g.pos).kind=2)=false->False)))))):=by
 refine⟨rfl,fun h=>Ev (TW h) (by omega),fun h=>⟨fun h2=>?_,fun h2=>⟨fun h3=>?_,fun h3=>⟨rfl,?_,fun g hI=>⟨rfl,?_⟩⟩⟩⟩⟩
 ·rw[x9,Bool.not_eq_true']at h2;exact Ev (by rw[RL h,h2];rfl) (by omega)
 ·rw[x9,Bool.not_eq_false']at h2;exact Ev (by rw[RL h,h2,VN rfl,VN (VK h3)]) (by omega)
 ·refine⟨xj k a 0,UL (VJ h3) 0,?_⟩;repeat' apply And.intro
  all_goals rfl
 rw[x9,Bool.not_eq_false']at h2;have hE:eh L k a=0:=by rw[RL h,h2,VN rfl,VM (VJ h3)]
 clear h h2 h3;obtain⟨⟨a1,a2⟩,⟨r1,r2⟩,⟨d1,d2⟩,e1,e2,e3⟩:=id hI;refine⟨fun v=>⟨fun _=>?_,fun h=>absurd h (by decide)⟩,fun v=>⟨fun v3=>⟨rfl,rfl,fun b=>⟨fun _=>?_,fun h=>absurd h (by decide)⟩,fun b=>⟨fun ro=>?_,fun ro=>?_⟩⟩,fun v3=>⟨fun v2=>?_,fun v2=>?_⟩⟩⟩
 ·simp only[Bool.not_eq_true',Bool.or_eq_false_iff,decide_eq_false_iff_not]at v;exact yd hI hE (Nb d1 d2 v.1 v.2) (by omega)
 ·have v3:=VK v3;exact yd hI hE (Qh d1 d2 v3 (by simpa using b)) (by omega)
 ·have v3:=VK v3;have hb:g.adr<64:=by simpa using b
  have hp:=gM (nN L g.pos);have hm:ei (ae L g.pos).kind=1:=by rw[v3];rfl
  rw[Ng r1 r2]at ro;have ro:g.rts.tmod 4≠0:=by simpa using ro
  refine ON hI hE ((DZ d1 d2 v3 hb).trans ?_);rw[Cf hp.1 (by omega)]
  unfold pB;rw[VM ro];rfl
 ·have v3:=VK v3;have hb:g.adr<64:=by simpa using b
  rw[Ng r1 r2]at ro;have ro:g.rts.tmod 4=0:=by simpa using ro
  refine ON hI hE ((DZ d1 d2 v3 hb).trans ?_);unfold pB;rw[VN ro]
 ·have v3:=VJ v3;have v2:=VK v2;obtain⟨pe,pi⟩:=ET (.inl v2);have pi':aQ L (ae L g.pos)=true:=by rw[pe];exact pi
  have hp:=pD (nN L g.pos);have ho:=S5 r1 r2 hp.1 hp.2;rw[Kw (i:=15) pi' v2 (by omega) (by omega),Kw (i:=14) pi' v2 (by omega) (by omega),ho.1,Uo ho.2.1 ho.2.2]
  refine⟨rfl,rfl,fun b=>⟨fun _=>?_,fun h=>absurd h (by decide)⟩,fun b=>⟨rfl,rfl,fun f=>⟨fun _=>?_,fun h=>absurd h (by decide)⟩,fun f=>⟨rfl,?_⟩⟩⟩
  ·exact yd hI hE (Rp d1 d2 v2 (by simpa using b)) (by omega)
  ·have b:g.dep<8:=by simpa using b
   exact yd hI hE (NL d1 d2 v2 b (by unfold pO;rw[Bool.not_eq_true']at f;exact f)) (by omega)
  ·have b:g.dep<8:=by simpa using b
   have f:pO g (ec L (cz (ae L g.pos) 0) 15)=true:=by unfold pO;rw[Bool.not_eq_false']at f;exact f
   have hf':=zm.1 f;have he:=vg (show(ec L (cz (ae L g.pos) 0) 15).value<=9 by omega)
   have hd:=tB a1 he.1;have q1:nT (ec L (cz (ae L g.pos) 0) 15).value:=⟨by omega,by omega⟩
   have q2:Eb (bw (ec L (cz (ae L g.pos) 0) 15).value):=by unfold Eb;omega
   unfold cj at ha;have q3:aM IntKind.i64 (g.adr.tdiv (bw (ec L (cz (ae L g.pos) 0) 15).value)):=by simp only[aM,cj];omega
   have q4:aM IntKind.i64 (g.adr.tmod (bw (ec L (cz (ae L g.pos) 0) 15).value)):=by simp only[aM,cj];omega
   have q5:aM IntKind.i64 (g.dep+1):=by simp only[aM,cj];omega
   have kp:∀b,(decide ((ec L (cz (ae L g.pos) 0) 14).kind=6)&&decide (su g.rts (ae L g.pos).rights<4))=b->BM (su g.rts (ae L g.pos).rights) (ec L (cz (ae L g.pos) 0) 14) g.kpr=if b then ec L (cz (ae L g.pos) 0) 14 else g.kpr:=by
    intro b hb;unfold BM;cases b
    ·simp only[Bool.and_eq_false_iff,decide_eq_false_iff_not]at hb;rw[VM (by omega)];rfl
    ·simp only[VG,VH]at hb;rw[VN hb];rfl
   refine⟨fun c=>⟨q1,⟨q2,q3⟩,rfl,fun s=>⟨fun _=>?_,fun h=>absurd h (by decide)⟩,fun s=>⟨q5,⟨q2,q4⟩,Lt L g,?_⟩⟩,fun c=>⟨q1,⟨q2,q3⟩,rfl,fun s=>⟨fun _=>?_,fun h=>absurd h (by decide)⟩,fun s=>⟨q5,⟨q2,q4⟩,Lt L g,?_⟩⟩⟩
   ·exact yd hI hE ((DN d1 d2 v2 b f (by simpa using s)).trans (by rw[kp _ c];rfl)) (by omega)
   ·have s:g.adr.tdiv (bw (ec L (cz (ae L g.pos) 0) 15).value)<14:=by simpa using s
    obtain⟨n1,n2⟩:=Pb hI v2 b f s;rw[Dv pi' v2 hd.1 (by omega)]
    refine⟨n1,n2,rfl,rfl,rfl,rfl,rfl,rfl,rfl,rfl,rfl,?_,rfl,rfl,rfl⟩;show _=BM _ _ _
    rw[kp _ c];rfl
   ·exact yd hI hE ((DN d1 d2 v2 b f (by simpa using s)).trans (by rw[kp _ c];rfl)) (by omega)
   ·have s:g.adr.tdiv (bw (ec L (cz (ae L g.pos) 0) 15).value)<14:=by simpa using s
    obtain⟨n1,n2⟩:=Pb hI v2 b f s;rw[Dv pi' v2 hd.1 (by omega)]
    refine⟨n1,n2,rfl,rfl,rfl,rfl,rfl,rfl,rfl,rfl,rfl,?_,rfl,rfl,rfl⟩;show _=BM _ _ _
    rw[kp _ c];rfl
 ·simp only[Bool.not_eq_false',Bool.or_eq_true,VH]at v;have v3:=VJ v3;have v2:=VJ v2;omega
theorem On (L:List Sx.Obj) (k:Key) (a:Int) (ha:cj .i64 a):aj Tryz.prog 236 [.lp 0 0,.key k,.it .i64 a] [.ro (.store tS eS L)] (nI (GZ L k a)) (fun _ _=>False):=
 aL (inl:=(fun f=>f==235||f==241||f==244||f==245||f==246||f==247)) (ann:=(kV [(241,2,UE [0,2] (fun _=> []) 0 (fun g=> .blk tW (U5 (.lp 0 0) g)) (qx L k a 0) tA)])) (ab Bx (ab ba (ab fh (ab cF (ab fR (ab EI (ab qt au))))))) aA (cZ DK) (Od L k a ha) (by kernel_rfl)
theorem Ec:dC Tryz.prog 236 PY:=
 jY (aN qK (aN mG (aN fN dX))) (fun _=>rfl) fun a hq hok=>by
  obtain⟨S,k,i,_⟩:=a;cases S with
  |none=>exact Jy k i hok.2.2.1
  |some L=>exact On L k i hok.2.2.1
end Go.Proofs.YtlblcfaclmpekaaGreat
