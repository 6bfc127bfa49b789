import Derived.Test.YtlblcfaclmpekaaGreatCtWa
import Derived.Test.YtlblcfaclmpekaaGreatCV
set_option linter.unusedSimpArgs false
set_option linter.unusedVariables false
namespace Go.Proofs.YtlblcfaclmpekaaGreat
open Go.Sx
set_option maxRecDepth 100000
theorem Hs:
 ∀(nid:Nat),some (V.mp nid)=some (V.mp nid)/\some [aC.mp IntKind.i64 [3,2] [V.fn 245 [],V.fn 246 []]]=some [aC.mp IntKind.i64 [3,2] [V.fn 245 [],V.fn 246 []]]:=by
 exact fun nid=>⟨rfl,rfl⟩
theorem A5:dD Tryz.prog 243 (yN Vr Vx):=rF (π:= [0]) (by decide) (fun _=>rfl) (bR (inl:=ca) (ann:=aV) ay aB Hs (by kernel_rfl))
theorem Is (k:Key) (a:Int) (ha:cj .i64 a):
 true=true/\(decide (aj []=0)=true->void=c9 (aA [] k a)/\0=cR (aA [] k a)/\void=dC (aA [] k a)/\0=dX (aA [] k a)/\0=fm (aA [] k a)/\void=fU (aA [] k
  a)/\0=fV (aA [] k a) a/\1=eh [] k a)/\(decide (aj []=0)=false->((!decide (bT k=0)||aU k&&decide (aj []<=bJ k))=true->void=c9 (aA [] k a)/\0=cR
  (aA [] k a)/\void=dC (aA [] k a)/\0=dX (aA [] k a)/\0=fm (aA [] k a)/\void=fU (aA [] k a)/\0=fV (aA [] k a) a/\2=eh [] k a)/\((!decide (bT k=0)||
  aU k&&decide (aj []<=bJ k))=false->(decide (a<0)=true->void=c9 (aA [] k a)/\0=cR (aA [] k a)/\void=dC (aA [] k a)/\0=dX (aA [] k a)/\0=fm (aA []
  k a)/\void=fU (aA [] k a)/\0=fV (aA [] k a) a/\4=eh [] k a)/\(decide (a<0)=false->true=true/\(∃g,qu [] k a 0 g/\k=k/\void=void/\void=void/\void=void/\k=k
  /\Value.pointer none=Value.pointer none/\k=g.pos/\a=g.adr/\0=g.rts/\void=g.kpr/\0=g.dep/\0=g.hi/\false=false)/\∀(g:Wk),qu [] k a 0 g->true=true/\((!(decide ((ah []
  g.pos).kind=3)||decide ((ah [] g.pos).kind=2)))=true->((!decide (1=0))=true->void=c9 (aA [] k a)/\0=cR (aA [] k a)/\void=dC (aA [] k a)/\0=dX (aA [] k a)/\
  1=fm (aA [] k a)/\g.kpr=fU (aA [] k a)/\a=fV (aA [] k a) a/\0=eh [] k a)/\((!decide (1=0))=false->ah [] g.pos=c9 (aA [] k a)/\g.adr=cR (aA [] k a)/\
  g.kpr=dC (aA [] k a)/\g.dep=dX (aA [] k a)/\0=fm (aA [] k a)/\void=fU (aA [] k a)/\0=fV (aA [] k a) a/\0=eh [] k a))/\((!(decide ((ah [] g.pos).kind=3)||
  decide ((ah [] g.pos).kind=2)))=false->(decide ((ah [] g.pos).kind=3)=true->true=true/\true=true/\((!decide (g.adr<64))=true->((!decide (2=0))=true->void=c9 (aA
  [] k a)/\0=cR (aA [] k a)/\void=dC (aA [] k a)/\0=dX (aA [] k a)/\2=fm (aA [] k a)/\g.kpr=fU (aA [] k a)/\a=fV (aA [] k a) a/\0=eh [] k a)/\((!decide (2
  =0))=false->ah [] g.pos=c9 (aA [] k a)/\g.adr=cR (aA [] k a)/\g.kpr=dC (aA [] k a)/\g.dep=dX (aA [] k a)/\0=fm (aA [] k a)/\void=fU (aA [] k a)/\0=
  fV (aA [] k a) a/\0=eh [] k a))/\((!decide (g.adr<64))=false->((!decide (aY BinOp.and IntKind.i64 g.rts 3=0))=true->Key.mk (ah [] g.pos).kind (ah [] g.pos).oid (ah []
  g.pos).count (ah [] g.pos).call (aY BinOp.or IntKind.i64 (ah [] g.pos).rights 1) (ah [] g.pos).value=c9 (aA [] k a)/\g.adr=cR (aA [] k a)/\g.kpr=dC (aA [] k a)/\
  g.dep=dX (aA [] k a)/\0=fm (aA [] k a)/\void=fU (aA [] k a)/\0=fV (aA [] k a) a/\0=eh [] k a)/\((!decide (aY BinOp.and IntKind.i64 g.rts 3=0))=false->ah []
  g.pos=c9 (aA [] k a)/\g.adr=cR (aA [] k a)/\g.kpr=dC (aA [] k a)/\g.dep=dX (aA [] k a)/\0=fm (aA [] k a)/\void=fU (aA [] k a)/\0=fV (aA [] k a) a/\0=
  eh [] k a)))/\(decide ((ah [] g.pos).kind=3)=false->(decide ((ah [] g.pos).kind=2)=true->true=true/\true=true/\((!decide (g.dep<8))=true->((!decide (3=0))=true->
  void=c9 (aA [] k a)/\0=cR (aA [] k a)/\void=dC (aA [] k a)/\0=dX (aA [] k a)/\3=fm (aA [] k a)/\g.kpr=fU (aA [] k a)/\a=fV (aA [] k a) a/\0=eh [] k
  a)/\((!decide (3=0))=false->ah [] g.pos=c9 (aA [] k a)/\g.adr=cR (aA [] k a)/\g.kpr=dC (aA [] k a)/\g.dep=dX (aA [] k a)/\0=fm (aA [] k a)/\void=fU
  (aA [] k a)/\0=fV (aA [] k a) a/\0=eh [] k a))/\((!decide (g.dep<8))=false->true=true/\true=true/\((!(decide ((aK [] (Key.mk 2 (ah [] g.pos).oid (ah []
  g.pos).count void.call void.rights void.value) 15).kind=1)&&decide (1<=(aK [] (Key.mk 2 (ah [] g.pos).oid (ah [] g.pos).count void.call void.rights void.value) 15).value)&&decide
  ((aK [] (Key.mk 2 (ah [] g.pos).oid (ah [] g.pos).count void.call void.rights void.value) 15).value<=8)&&(decide (g.dep=0)||decide ((aK [] (Key.mk 2 (ah [] g.pos).oid (ah
  [] g.pos).count void.call void.rights void.value) 15).value<g.hi))))=true->((!decide (4=0))=true->void=c9 (aA [] k a)/\0=cR (aA [] k a)/\void=dC (aA [] k a)/\0=dX
  (aA [] k a)/\4=fm (aA [] k a)/\g.kpr=fU (aA [] k a)/\a=fV (aA [] k a) a/\0=eh [] k a)/\((!decide (4=0))=false->ah [] g.pos=c9 (aA [] k a)/\g.adr=cR
  (aA [] k a)/\g.kpr=dC (aA [] k a)/\g.dep=dX (aA [] k a)/\0=fm (aA [] k a)/\void=fU (aA [] k a)/\0=fV (aA [] k a) a/\0=eh [] k a))/\((!(decide ((aK []
  (Key.mk 2 (ah [] g.pos).oid (ah [] g.pos).count void.call void.rights void.value) 15).kind=1)&&decide (1<=(aK [] (Key.mk 2 (ah [] g.pos).oid (ah [] g.pos).count void.call
  void.rights void.value) 15).value)&&decide ((aK [] (Key.mk 2 (ah [] g.pos).oid (ah [] g.pos).count void.call void.rights void.value) 15).value<=8)&&(decide (g.dep=0)||decide
  ((aK [] (Key.mk 2 (ah [] g.pos).oid (ah [] g.pos).count void.call void.rights void.value) 15).value<g.hi))))=false->true=true/\((decide ((aK [] (Key.mk 2 (ah [] g.pos).oid
  (ah [] g.pos).count void.call void.rights void.value) 14).kind=6)&&decide (aY BinOp.and IntKind.i64 (aY BinOp.or IntKind.i64 g.rts (ah [] g.pos).rights) 4=0))=true->nR
  (aK [] (Key.mk 2 (ah [] g.pos).oid (ah [] g.pos).count void.call void.rights void.value) 15).value/\(EY (bz (aK [] (Key.mk 2 (ah [] g.pos).oid (ah [] g.pos).count
  void.call void.rights void.value) 15).value)/\aP IntKind.i64 (g.adr.tdiv (bz (aK [] (Key.mk 2 (ah [] g.pos).oid (ah [] g.pos).count void.call void.rights void.value) 15).value)))/\
  true=true/\((!decide (g.adr.tdiv (bz (aK [] (Key.mk 2 (ah [] g.pos).oid (ah [] g.pos).count void.call void.rights void.value) 15).value)<14))=true->((!decide (2=0))=true->
  void=c9 (aA [] k a)/\0=cR (aA [] k a)/\void=dC (aA [] k a)/\0=dX (aA [] k a)/\2=fm (aA [] k a)/\aK [] (Key.mk 2 (ah [] g.pos).oid (ah [] g.pos).count
  void.call void.rights void.value) 14=fU (aA [] k a)/\a=fV (aA [] k a) a/\0=eh [] k a)/\((!decide (2=0))=false->ah [] g.pos=c9 (aA [] k a)/\g.adr=cR (aA [] k a)
  /\aK [] (Key.mk 2 (ah [] g.pos).oid (ah [] g.pos).count void.call void.rights void.value) 14=dC (aA [] k a)/\g.dep=dX (aA [] k a)/\0=fm (aA [] k a)/\void=fU (aA
  [] k a)/\0=fV (aA [] k a) a/\0=eh [] k a))/\((!decide (g.adr.tdiv (bz (aK [] (Key.mk 2 (ah [] g.pos).oid (ah [] g.pos).count void.call void.rights void.value) 15).value)<
  14))=false->aP IntKind.i64 (g.dep+1)/\(EY (bz (aK [] (Key.mk 2 (ah [] g.pos).oid (ah [] g.pos).count void.call void.rights void.value) 15).value)/\aP IntKind.i64 (g.adr.tmod
  (bz (aK [] (Key.mk 2 (ah [] g.pos).oid (ah [] g.pos).count void.call void.rights void.value) 15).value)))/\∃g',qu [] k a 0 g'/\s8 g'<s8 g/\k=k/\void=void/\void=void
  /\void=void/\k=k/\Value.pointer none=Value.pointer none/\aK [] (ah [] g.pos) (g.adr.tdiv (bz (aK [] (Key.mk 2 (ah [] g.pos).oid (ah [] g.pos).count void.call
  void.rights void.value) 15).value))=g'.pos/\g.adr.tmod (bz (aK [] (Key.mk 2 (ah [] g.pos).oid (ah [] g.pos).count void.call void.rights void.value) 15).value)=g'.adr/\aY
  BinOp.or IntKind.i64 g.rts (ah [] g.pos).rights=g'.rts/\aK [] (Key.mk 2 (ah [] g.pos).oid (ah [] g.pos).count void.call void.rights void.value) 14=g'.kpr/\g.dep+1=g'.dep/\
  (aK [] (Key.mk 2 (ah [] g.pos).oid (ah [] g.pos).count void.call void.rights void.value) 15).value=g'.hi/\false=false))/\((decide ((aK [] (Key.mk 2 (ah [] g.pos).oid (ah
  [] g.pos).count void.call void.rights void.value) 14).kind=6)&&decide (aY BinOp.and IntKind.i64 (aY BinOp.or IntKind.i64 g.rts (ah [] g.pos).rights) 4=0))=false->nR (aK []
  (Key.mk 2 (ah [] g.pos).oid (ah [] g.pos).count void.call void.rights void.value) 15).value/\(EY (bz (aK [] (Key.mk 2 (ah [] g.pos).oid (ah [] g.pos).count void.call
  void.rights void.value) 15).value)/\aP IntKind.i64 (g.adr.tdiv (bz (aK [] (Key.mk 2 (ah [] g.pos).oid (ah [] g.pos).count void.call void.rights void.value) 15).value)))/\true=true
  /\((!decide (g.adr.tdiv (bz (aK [] (Key.mk 2 (ah [] g.pos).oid (ah [] g.pos).count void.call void.rights void.value) 15).value)<14))=true->((!decide (2=0))=true->void=c9
  (aA [] k a)/\0=cR (aA [] k a)/\void=dC (aA [] k a)/\0=dX (aA [] k a)/\2=fm (aA [] k a)/\g.kpr=fU (aA [] k a)/\a=fV (aA [] k a) a/\0=eh [] k a)/\
  ((!decide (2=0))=false->ah [] g.pos=c9 (aA [] k a)/\g.adr=cR (aA [] k a)/\g.kpr=dC (aA [] k a)/\g.dep=dX (aA [] k a)/\0=fm (aA [] k a)/\void=fU (aA []
  k a)/\0=fV (aA [] k a) a/\0=eh [] k a))/\((!decide (g.adr.tdiv (bz (aK [] (Key.mk 2 (ah [] g.pos).oid (ah [] g.pos).count void.call void.rights void.value) 15).value)<
  14))=false->aP IntKind.i64 (g.dep+1)/\(EY (bz (aK [] (Key.mk 2 (ah [] g.pos).oid (ah [] g.pos).count void.call void.rights void.value) 15).value)/\aP IntKind.i64 (g.adr.tmod
  (bz (aK [] (Key.mk 2 (ah [] g.pos).oid (ah [] g.pos).count void.call void.rights void.value) 15).value)))/\∃g',qu [] k a 0 g'/\s8 g'<s8 g/\k=k/\void=void/\void=void
  /\void=void/\k=k/\Value.pointer none=Value.pointer none/\aK [] (ah [] g.pos) (g.adr.tdiv (bz (aK [] (Key.mk 2 (ah [] g.pos).oid (ah [] g.pos).count void.call
  void.rights void.value) 15).value))=g'.pos/\g.adr.tmod (bz (aK [] (Key.mk 2 (ah [] g.pos).oid (ah [] g.pos).count void.call void.rights void.value) 15).value)=g'.adr/\aY
  BinOp.or IntKind.i64 g.rts (ah [] g.pos).rights=g'.rts/\g.kpr=g'.kpr/\g.dep+1=g'.dep/\(aK [] (Key.mk 2 (ah [] g.pos).oid (ah [] g.pos).count void.call void.rights void.value)
  15).value=g'.hi/\false=false)))))/\(decide ((ah [] g.pos).kind=2)=false->False)))))):=by
 refine⟨rfl,fun h=>EV (TX h) (by omega),fun h=>absurd h (by decide)⟩
theorem K6 (k:Key) (a:Int) (ha:cj .i64 a):ak Tryz.prog 236 [gT,.key k,.it .i64 a] [] (nE (Jj [] k a)) (fun _ _=>False):=
 aN (inl:=(fun f=>f==235||f==241||f==244||f==245||f==246||f==247)) (ann:=(lr [(241,2,Ub [0,2] (fun _=> []) 0 (fun g=> .blk tW (Vm (gT) g)) (qu [] k a 0) s8)])) (ae A5 (ae bd (ae fc (ae cF (ae fO (ae DH (ae pZ ay))))))) aB (cY Ee) (Is k a ha) (by kernel_rfl)
theorem Nf (L:List Sx.Obj) (k:Key) (a:Int) (ha:cj .i64 a):
 true=true/\(decide (aj L=0)=true->void=c9 (aA L k a)/\0=cR (aA L k a)/\void=dC (aA L k a)/\0=dX (aA L k a)/\0=fm (aA L k a)/\void=fU (aA L k a)/\0
  =fV (aA L k a) a/\1=eh L k a)/\(decide (aj L=0)=false->((!decide (bT k=0)||aU k&&decide (aj L<=bJ k))=true->void=c9 (aA L k a)/\0=cR (aA L k a)
  /\void=dC (aA L k a)/\0=dX (aA L k a)/\0=fm (aA L k a)/\void=fU (aA L k a)/\0=fV (aA L k a) a/\2=eh L k a)/\((!decide (bT k=0)||aU k&&decide
  (aj L<=bJ k))=false->(decide (a<0)=true->void=c9 (aA L k a)/\0=cR (aA L k a)/\void=dC (aA L k a)/\0=dX (aA L k a)/\0=fm (aA L k a)/\void=fU (aA
  L k a)/\0=fV (aA L k a) a/\4=eh L k a)/\(decide (a<0)=false->true=true/\(∃g,qu L k a 0 g/\L=L/\k=k/\void=void/\void=void/\void=void/\k=k/\k=g.pos/\a=
  g.adr/\0=g.rts/\void=g.kpr/\0=g.dep/\0=g.hi/\false=false)/\∀(g:Wk),qu L k a 0 g->true=true/\((!(decide ((ah L g.pos).kind=3)||decide ((ah L g.pos).kind=2)))=
  true->((!decide (1=0))=true->void=c9 (aA L k a)/\0=cR (aA L k a)/\void=dC (aA L k a)/\0=dX (aA L k a)/\1=fm (aA L k a)/\g.kpr=fU (aA L k a)/\a=fV
  (aA L k a) a/\0=eh L k a)/\((!decide (1=0))=false->ah L g.pos=c9 (aA L k a)/\g.adr=cR (aA L k a)/\g.kpr=dC (aA L k a)/\g.dep=dX (aA L k a)/\0=fm (aA L
  k a)/\void=fU (aA L k a)/\0=fV (aA L k a) a/\0=eh L k a))/\((!(decide ((ah L g.pos).kind=3)||decide ((ah L g.pos).kind=2)))=false->(decide ((ah L g.pos).kind=
  3)=true->true=true/\true=true/\((!decide (g.adr<64))=true->((!decide (2=0))=true->void=c9 (aA L k a)/\0=cR (aA L k a)/\void=dC (aA L k a)/\0=dX (aA L k a)
  /\2=fm (aA L k a)/\g.kpr=fU (aA L k a)/\a=fV (aA L k a) a/\0=eh L k a)/\((!decide (2=0))=false->ah L g.pos=c9 (aA L k a)/\g.adr=cR (aA L k a)/\g.kpr=
  dC (aA L k a)/\g.dep=dX (aA L k a)/\0=fm (aA L k a)/\void=fU (aA L k a)/\0=fV (aA L k a) a/\0=eh L k a))/\((!decide (g.adr<64))=false->((!decide (aY
  BinOp.and IntKind.i64 g.rts 3=0))=true->Key.mk (ah L g.pos).kind (ah L g.pos).oid (ah L g.pos).count (ah L g.pos).call (aY BinOp.or IntKind.i64 (ah L g.pos).rights 1)
  (ah L g.pos).value=c9 (aA L k a)/\g.adr=cR (aA L k a)/\g.kpr=dC (aA L k a)/\g.dep=dX (aA L k a)/\0=fm (aA L k a)/\void=fU (aA L k a)/\0=fV (aA L k a)
  a/\0=eh L k a)/\((!decide (aY BinOp.and IntKind.i64 g.rts 3=0))=false->ah L g.pos=c9 (aA L k a)/\g.adr=cR (aA L k a)/\g.kpr=dC (aA L k a)/\g.dep=dX (aA L k
  a)/\0=fm (aA L k a)/\void=fU (aA L k a)/\0=fV (aA L k a) a/\0=eh L k a)))/\(decide ((ah L g.pos).kind=3)=false->(decide ((ah L g.pos).kind=2)=true->true=
  true/\true=true/\((!decide (g.dep<8))=true->((!decide (3=0))=true->void=c9 (aA L k a)/\0=cR (aA L k a)/\void=dC (aA L k a)/\0=dX (aA L k a)/\3=fm (aA L k
  a)/\g.kpr=fU (aA L k a)/\a=fV (aA L k a) a/\0=eh L k a)/\((!decide (3=0))=false->ah L g.pos=c9 (aA L k a)/\g.adr=cR (aA L k a)/\g.kpr=dC (aA L k a)/\
  g.dep=dX (aA L k a)/\0=fm (aA L k a)/\void=fU (aA L k a)/\0=fV (aA L k a) a/\0=eh L k a))/\((!decide (g.dep<8))=false->true=true/\true=true/\((!(decide
  ((aK L (Key.mk 2 (ah L g.pos).oid (ah L g.pos).count void.call void.rights void.value) 15).kind=1)&&decide (1<=(aK L (Key.mk 2 (ah L g.pos).oid (ah L g.pos).count void.call
  void.rights void.value) 15).value)&&decide ((aK L (Key.mk 2 (ah L g.pos).oid (ah L g.pos).count void.call void.rights void.value) 15).value<=8)&&(decide (g.dep=0)||decide ((aK
  L (Key.mk 2 (ah L g.pos).oid (ah L g.pos).count void.call void.rights void.value) 15).value<g.hi))))=true->((!decide (4=0))=true->void=c9 (aA L k a)/\0=cR (aA L k a)/\
  void=dC (aA L k a)/\0=dX (aA L k a)/\4=fm (aA L k a)/\g.kpr=fU (aA L k a)/\a=fV (aA L k a) a/\0=eh L k a)/\((!decide (4=0))=false->ah L g.pos=c9
  (aA L k a)/\g.adr=cR (aA L k a)/\g.kpr=dC (aA L k a)/\g.dep=dX (aA L k a)/\0=fm (aA L k a)/\void=fU (aA L k a)/\0=fV (aA L k a) a/\0=eh L k a))/\
  ((!(decide ((aK L (Key.mk 2 (ah L g.pos).oid (ah L g.pos).count void.call void.rights void.value) 15).kind=1)&&decide (1<=(aK L (Key.mk 2 (ah L g.pos).oid (ah L
  g.pos).count void.call void.rights void.value) 15).value)&&decide ((aK L (Key.mk 2 (ah L g.pos).oid (ah L g.pos).count void.call void.rights void.value) 15).value<=8)&&(decide (g.dep=
  0)||decide ((aK L (Key.mk 2 (ah L g.pos).oid (ah L g.pos).count void.call void.rights void.value) 15).value<g.hi))))=false->true=true/\((decide ((aK L (Key.mk 2 (ah L
  g.pos).oid (ah L g.pos).count void.call void.rights void.value) 14).kind=6)&&decide (aY BinOp.and IntKind.i64 (aY BinOp.or IntKind.i64 g.rts (ah L g.pos).rights) 4=0))=true->
  nR (aK L (Key.mk 2 (ah L g.pos).oid (ah L g.pos).count void.call void.rights void.value) 15).value/\(EY (bz (aK L (Key.mk 2 (ah L g.pos).oid (ah L g.pos).count
  void.call void.rights void.value) 15).value)/\aP IntKind.i64 (g.adr.tdiv (bz (aK L (Key.mk 2 (ah L g.pos).oid (ah L g.pos).count void.call void.rights void.value) 15).value)))/\true
  =true/\((!decide (g.adr.tdiv (bz (aK L (Key.mk 2 (ah L g.pos).oid (ah L g.pos).count void.call void.rights void.value) 15).value)<14))=true->((!decide (2=0))=true->void=
  c9 (aA L k a)/\0=cR (aA L k a)/\void=dC (aA L k a)/\0=dX (aA L k a)/\2=fm (aA L k a)/\aK L (Key.mk 2 (ah L g.pos).oid (ah L g.pos).count void.call
  void.rights void.value) 14=fU (aA L k a)/\a=fV (aA L k a) a/\0=eh L k a)/\((!decide (2=0))=false->ah L g.pos=c9 (aA L k a)/\g.adr=cR (aA L k a)/\aK L
  (Key.mk 2 (ah L g.pos).oid (ah L g.pos).count void.call void.rights void.value) 14=dC (aA L k a)/\g.dep=dX (aA L k a)/\0=fm (aA L k a)/\void=fU (aA L k a)/\0=fV
  (aA L k a) a/\0=eh L k a))/\((!decide (g.adr.tdiv (bz (aK L (Key.mk 2 (ah L g.pos).oid (ah L g.pos).count void.call void.rights void.value) 15).value)<14))=false->aP
  IntKind.i64 (g.dep+1)/\(EY (bz (aK L (Key.mk 2 (ah L g.pos).oid (ah L g.pos).count void.call void.rights void.value) 15).value)/\aP IntKind.i64 (g.adr.tmod (bz (aK L
  (Key.mk 2 (ah L g.pos).oid (ah L g.pos).count void.call void.rights void.value) 15).value)))/\∃g',qu L k a 0 g'/\s8 g'<s8 g/\L=L/\k=k/\void=void/\void=void/\void=void
  /\k=k/\aK L (ah L g.pos) (g.adr.tdiv (bz (aK L (Key.mk 2 (ah L g.pos).oid (ah L g.pos).count void.call void.rights void.value) 15).value))=g'.pos/\g.adr.tmod (bz
  (aK L (Key.mk 2 (ah L g.pos).oid (ah L g.pos).count void.call void.rights void.value) 15).value)=g'.adr/\aY BinOp.or IntKind.i64 g.rts (ah L g.pos).rights=g'.rts/\aK L
  (Key.mk 2 (ah L g.pos).oid (ah L g.pos).count void.call void.rights void.value) 14=g'.kpr/\g.dep+1=g'.dep/\(aK L (Key.mk 2 (ah L g.pos).oid (ah L g.pos).count void.call
  void.rights void.value) 15).value=g'.hi/\false=false))/\((decide ((aK L (Key.mk 2 (ah L g.pos).oid (ah L g.pos).count void.call void.rights void.value) 14).kind=6)&&decide (aY
  BinOp.and IntKind.i64 (aY BinOp.or IntKind.i64 g.rts (ah L g.pos).rights) 4=0))=false->nR (aK L (Key.mk 2 (ah L g.pos).oid (ah L g.pos).count void.call void.rights
  void.value) 15).value/\(EY (bz (aK L (Key.mk 2 (ah L g.pos).oid (ah L g.pos).count void.call void.rights void.value) 15).value)/\aP IntKind.i64 (g.adr.tdiv (bz (aK L
  (Key.mk 2 (ah L g.pos).oid (ah L g.pos).count void.call void.rights void.value) 15).value)))/\true=true/\((!decide (g.adr.tdiv (bz (aK L (Key.mk 2 (ah L g.pos).oid (ah L
  g.pos).count void.call void.rights void.value) 15).value)<14))=true->((!decide (2=0))=true->void=c9 (aA L k a)/\0=cR (aA L k a)/\void=dC (aA L k a)/\0=dX (aA L k a)
  /\2=fm (aA L k a)/\g.kpr=fU (aA L k a)/\a=fV (aA L k a) a/\0=eh L k a)/\((!decide (2=0))=false->ah L g.pos=c9 (aA L k a)/\g.adr=cR (aA L k a)/\g.kpr=
  dC (aA L k a)/\g.dep=dX (aA L k a)/\0=fm (aA L k a)/\void=fU (aA L k a)/\0=fV (aA L k a) a/\0=eh L k a))/\((!decide (g.adr.tdiv (bz (aK L (Key.mk 2 (ah
  L g.pos).oid (ah L g.pos).count void.call void.rights void.value) 15).value)<14))=false->aP IntKind.i64 (g.dep+1)/\(EY (bz (aK L (Key.mk 2 (ah L g.pos).oid (ah L
  g.pos).count void.call void.rights void.value) 15).value)/\aP IntKind.i64 (g.adr.tmod (bz (aK L (Key.mk 2 (ah L g.pos).oid (ah L g.pos).count void.call void.rights void.value)
  15).value)))/\∃g',qu L k a 0 g'/\s8 g'<s8 g/\L=L/\k=k/\void=void/\void=void/\void=void/\k=k/\aK L (ah L g.pos) (g.adr.tdiv (bz (aK L (Key.mk 2 (ah L
  g.pos).oid (ah L g.pos).count void.call void.rights void.value) 15).value))=g'.pos/\g.adr.tmod (bz (aK L (Key.mk 2 (ah L g.pos).oid (ah L g.pos).count void.call void.rights
  void.value) 15).value)=g'.adr/\aY BinOp.or IntKind.i64 g.rts (ah L g.pos).rights=g'.rts/\g.kpr=g'.kpr/\g.dep+1=g'.dep/\(aK L (Key.mk 2 (ah L g.pos).oid (ah L
  g.pos).count void.call void.rights void.value) 15).value=g'.hi/\false=false)))))/\(decide ((ah L g.pos).kind=2)=false->False)))))):=by
 refine⟨rfl,fun h=>EV (TX h) (by omega),fun h=>⟨fun h2=>?_,fun h2=>⟨fun h3=>?_,fun h3=>⟨rfl,?_,fun g hI=>⟨rfl,?_⟩⟩⟩⟩⟩
 ·rw[yx,Bool.not_eq_true']at h2;exact EV (by rw[RZ h,h2];rfl) (by omega)
 ·rw[yx,Bool.not_eq_false']at h2;exact EV (by rw[RZ h,h2,VR rfl,VR (VO h3)]) (by omega)
 ·refine⟨vy k a 0,UQ (VN h3) 0,?_⟩;repeat' apply And.intro
  all_goals rfl
 rw[yx,Bool.not_eq_false']at h2;have hE:eh L k a=0:=by rw[RZ h,h2,VR rfl,VQ (VN h3)]
 clear h h2 h3;obtain⟨⟨a1,a2⟩,⟨r1,r2⟩,⟨d1,d2⟩,e1,e2,e3⟩:=id hI;refine⟨fun v=>⟨fun _=>?_,fun h=>absurd h (by decide)⟩,fun v=>⟨fun v3=>⟨rfl,rfl,fun b=>⟨fun _=>?_,fun h=>absurd h (by decide)⟩,fun b=>⟨fun ro=>?_,fun ro=>?_⟩⟩,fun v3=>⟨fun v2=>?_,fun v2=>?_⟩⟩⟩
 ·simp only[Bool.not_eq_true',Bool.or_eq_false_iff,decide_eq_false_iff_not]at v;exact xM hI hE (Mt d1 d2 v.1 v.2) (by omega)
 ·have v3:=VO v3;exact xM hI hE (Rm d1 d2 v3 (by simpa using b)) (by omega)
 ·have v3:=VO v3;have hb:g.adr<64:=by simpa using b
  have hp:=gC (nH L g.pos);have hm:ef (ah L g.pos).kind=1:=by rw[v3];rfl
  rw[NT r1 r2]at ro;have ro:g.rts.tmod 4≠0:=by simpa using ro
  refine O4 hI hE ((Ez d1 d2 v3 hb).trans ?_);rw[Ao hp.1 (by omega)]
  unfold pB;rw[VQ ro];rfl
 ·have v3:=VO v3;have hb:g.adr<64:=by simpa using b
  rw[NT r1 r2]at ro;have ro:g.rts.tmod 4=0:=by simpa using ro
  refine O4 hI hE ((Ez d1 d2 v3 hb).trans ?_);unfold pB;rw[VR ro]
 ·have v3:=VN v3;have v2:=VO v2;obtain⟨pe,pi⟩:=Ew (.inl v2);have pi':aT L (ah L g.pos)=true:=by rw[pe];exact pi
  have hp:=oZ (nH L g.pos);have ho:=Sg r1 r2 hp.1 hp.2;rw[Lq (i:=15) pi' v2 (by omega) (by omega),Lq (i:=14) pi' v2 (by omega) (by omega),ho.1,UW ho.2.1 ho.2.2]
  refine⟨rfl,rfl,fun b=>⟨fun _=>?_,fun h=>absurd h (by decide)⟩,fun b=>⟨rfl,rfl,fun f=>⟨fun _=>?_,fun h=>absurd h (by decide)⟩,fun f=>⟨rfl,?_⟩⟩⟩
  ·exact xM hI hE (PJ d1 d2 v2 (by simpa using b)) (by omega)
  ·have b:g.dep<8:=by simpa using b
   exact xM hI hE (MH d1 d2 v2 b (by unfold o8;rw[Bool.not_eq_true']at f;exact f)) (by omega)
  ·have b:g.dep<8:=by simpa using b
   have f:o8 g (ea L (cA (ah L g.pos) 0) 15)=true:=by unfold o8;rw[Bool.not_eq_false']at f;exact f
   have hf':=Ah.1 f;have he:=vd (show(ea L (cA (ah L g.pos) 0) 15).value<=9 by omega)
   have hd:=tE a1 he.1;have q1:nR (ea L (cA (ah L g.pos) 0) 15).value:=⟨by omega,by omega⟩
   have q2:EY (bz (ea L (cA (ah L g.pos) 0) 15).value):=by unfold EY;omega
   unfold cj at ha;have q3:aP IntKind.i64 (g.adr.tdiv (bz (ea L (cA (ah L g.pos) 0) 15).value)):=by simp only[aP,cj];omega
   have q4:aP IntKind.i64 (g.adr.tmod (bz (ea L (cA (ah L g.pos) 0) 15).value)):=by simp only[aP,cj];omega
   have q5:aP IntKind.i64 (g.dep+1):=by simp only[aP,cj];omega
   have kp:∀b,(decide ((ea L (cA (ah L g.pos) 0) 14).kind=6)&&decide (sN g.rts (ah L g.pos).rights<4))=b->A1 (sN g.rts (ah L g.pos).rights) (ea L (cA (ah L g.pos) 0) 14) g.kpr=if b then ea L (cA (ah L g.pos) 0) 14 else g.kpr:=by
    intro b hb;unfold A1;cases b
    ·simp only[Bool.and_eq_false_iff,decide_eq_false_iff_not]at hb;rw[VQ (by omega)];rfl
    ·simp only[VK,VL]at hb;rw[VR hb];rfl
   refine⟨fun c=>⟨q1,⟨q2,q3⟩,rfl,fun s=>⟨fun _=>?_,fun h=>absurd h (by decide)⟩,fun s=>⟨q5,⟨q2,q4⟩,Ly L g,?_⟩⟩,fun c=>⟨q1,⟨q2,q3⟩,rfl,fun s=>⟨fun _=>?_,fun h=>absurd h (by decide)⟩,fun s=>⟨q5,⟨q2,q4⟩,Ly L g,?_⟩⟩⟩
   ·exact xM hI hE ((Eu d1 d2 v2 b f (by simpa using s)).trans (by rw[kp _ c];rfl)) (by omega)
   ·have s:g.adr.tdiv (bz (ea L (cA (ah L g.pos) 0) 15).value)<14:=by simpa using s
    obtain⟨n1,n2⟩:=Ph hI v2 b f s;rw[Cs pi' v2 hd.1 (by omega)]
    refine⟨n1,n2,rfl,rfl,rfl,rfl,rfl,rfl,rfl,rfl,rfl,?_,rfl,rfl,rfl⟩;show _=A1 _ _ _
    rw[kp _ c];rfl
   ·exact xM hI hE ((Eu d1 d2 v2 b f (by simpa using s)).trans (by rw[kp _ c];rfl)) (by omega)
   ·have s:g.adr.tdiv (bz (ea L (cA (ah L g.pos) 0) 15).value)<14:=by simpa using s
    obtain⟨n1,n2⟩:=Ph hI v2 b f s;rw[Cs pi' v2 hd.1 (by omega)]
    refine⟨n1,n2,rfl,rfl,rfl,rfl,rfl,rfl,rfl,rfl,rfl,?_,rfl,rfl,rfl⟩;show _=A1 _ _ _
    rw[kp _ c];rfl
 ·simp only[Bool.not_eq_false',Bool.or_eq_true,VL]at v;have v3:=VN v3;have v2:=VN v2;omega
theorem OI (L:List Sx.Obj) (k:Key) (a:Int) (ha:cj .i64 a):ak Tryz.prog 236 [.lp 0 0,.key k,.it .i64 a] [.ro (.store tS eS L)] (nE (Jj L k a)) (fun _ _=>False):=
 aN (inl:=(fun f=>f==235||f==241||f==244||f==245||f==246||f==247)) (ann:=(lr [(241,2,Ub [0,2] (fun _=> []) 0 (fun g=> .blk tW (Vm (.lp 0 0) g)) (qu L k a 0) s8)])) (ae A5 (ae bd (ae fc (ae cF (ae fO (ae DH (ae pZ ay))))))) aB (cY Ee) (Nf L k a ha) (by kernel_rfl)
theorem Et:dD Tryz.prog 236 PB:=
 jH (aQ qL (aQ mC (aQ fP dU))) (fun _=>rfl) fun a hq hok=>by
  obtain⟨S,k,i,_⟩:=a;cases S with
  |none=>exact K6 k i hok.2.2.1
  |some L=>exact OI L k i hok.2.2.1
end Go.Proofs.YtlblcfaclmpekaaGreat
