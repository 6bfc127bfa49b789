import Derived.Test.YtghpaegglbbocaaGreatCtWa
import Derived.Test.YtghpaegglbbocaaGreatCV
set_option linter.unusedSimpArgs false
set_option linter.unusedVariables false
namespace Go.Proofs.YtghpaegglbbocaaGreat
open Go.Sx
set_option maxRecDepth 100000
theorem HW:
 ∀(nid:Nat),some (V.mp nid)=some (V.mp nid)/\some [aH.mp IntKind.i64 [3,2] [V.fn 206 [],V.fn 207 []]]=some [aH.mp IntKind.i64 [3,2] [V.fn 206 [],V.fn 207 []]]:=by
 exact fun nid=>⟨rfl,rfl⟩
theorem Ca:cj Tryz.prog 204 (CB XA Xw):=wV (π:= [0]) (by decide) (fun _=>rfl) (br (inl:=bn) (ann:=aP) an aC HW (by kernel_rfl))
theorem Jk (k:Key) (a:Int) (ha:cg .i64 a):
 true=true/\(decide (ak []=0)=true->void=bV (ar [] k a)/\0=bU (ar [] k a)/\void=cO (ar [] k a)/\0=dc (ar [] k a)/\0=ei (ar [] k a)/\void=e9 (ar [] k
  a)/\0=fa (ar [] k a) a/\1=de [] k a)/\(decide (ak []=0)=false->((!decide (bD k=0)||bg k&&decide (ak []<=cR k))=true->void=bV (ar [] k a)/\0=bU
  (ar [] k a)/\void=cO (ar [] k a)/\0=dc (ar [] k a)/\0=ei (ar [] k a)/\void=e9 (ar [] k a)/\0=fa (ar [] k a) a/\2=de [] k a)/\((!decide (bD k=0)||
  bg k&&decide (ak []<=cR k))=false->(decide (a<0)=true->void=bV (ar [] k a)/\0=bU (ar [] k a)/\void=cO (ar [] k a)/\0=dc (ar [] k a)/\0=ei (ar []
  k a)/\void=e9 (ar [] k a)/\0=fa (ar [] k a) a/\4=de [] k a)/\(decide (a<0)=false->true=true/\(∃g,mN [] k a 0 g/\k=k/\void=void/\void=void/\void=void/\k=k
  /\Value.pointer none=Value.pointer none/\k=g.pos/\a=g.adr/\0=g.rts/\void=g.kpr/\0=g.dep/\0=g.hi/\false=false)/\∀(g:Wk),mN [] k a 0 g->true=true/\((!(decide ((ab []
  g.pos).kind=3)||decide ((ab [] g.pos).kind=2)))=true->((!decide (1=0))=true->void=bV (ar [] k a)/\0=bU (ar [] k a)/\void=cO (ar [] k a)/\0=dc (ar [] k a)/\
  1=ei (ar [] k a)/\g.kpr=e9 (ar [] k a)/\a=fa (ar [] k a) a/\0=de [] k a)/\((!decide (1=0))=false->ab [] g.pos=bV (ar [] k a)/\g.adr=bU (ar [] k a)/\
  g.kpr=cO (ar [] k a)/\g.dep=dc (ar [] k a)/\0=ei (ar [] k a)/\void=e9 (ar [] k a)/\0=fa (ar [] k a) a/\0=de [] k a))/\((!(decide ((ab [] g.pos).kind=3)||
  decide ((ab [] g.pos).kind=2)))=false->(decide ((ab [] g.pos).kind=3)=true->true=true/\true=true/\((!decide (g.adr<64))=true->((!decide (2=0))=true->void=bV (ar
  [] k a)/\0=bU (ar [] k a)/\void=cO (ar [] k a)/\0=dc (ar [] k a)/\2=ei (ar [] k a)/\g.kpr=e9 (ar [] k a)/\a=fa (ar [] k a) a/\0=de [] k a)/\((!decide (2
  =0))=false->ab [] g.pos=bV (ar [] k a)/\g.adr=bU (ar [] k a)/\g.kpr=cO (ar [] k a)/\g.dep=dc (ar [] k a)/\0=ei (ar [] k a)/\void=e9 (ar [] k a)/\0=
  fa (ar [] k a) a/\0=de [] k a))/\((!decide (g.adr<64))=false->((!decide (bd BinOp.and IntKind.i64 g.rts 3=0))=true->Key.mk (ab [] g.pos).kind (ab [] g.pos).oid (ab []
  g.pos).count (ab [] g.pos).call (bd BinOp.or IntKind.i64 (ab [] g.pos).rights 1) (ab [] g.pos).value=bV (ar [] k a)/\g.adr=bU (ar [] k a)/\g.kpr=cO (ar [] k a)/\
  g.dep=dc (ar [] k a)/\0=ei (ar [] k a)/\void=e9 (ar [] k a)/\0=fa (ar [] k a) a/\0=de [] k a)/\((!decide (bd BinOp.and IntKind.i64 g.rts 3=0))=false->ab []
  g.pos=bV (ar [] k a)/\g.adr=bU (ar [] k a)/\g.kpr=cO (ar [] k a)/\g.dep=dc (ar [] k a)/\0=ei (ar [] k a)/\void=e9 (ar [] k a)/\0=fa (ar [] k a) a/\0=
  de [] k a)))/\(decide ((ab [] g.pos).kind=3)=false->(decide ((ab [] g.pos).kind=2)=true->true=true/\true=true/\((!decide (g.dep<8))=true->((!decide (3=0))=true->
  void=bV (ar [] k a)/\0=bU (ar [] k a)/\void=cO (ar [] k a)/\0=dc (ar [] k a)/\3=ei (ar [] k a)/\g.kpr=e9 (ar [] k a)/\a=fa (ar [] k a) a/\0=de [] k
  a)/\((!decide (3=0))=false->ab [] g.pos=bV (ar [] k a)/\g.adr=bU (ar [] k a)/\g.kpr=cO (ar [] k a)/\g.dep=dc (ar [] k a)/\0=ei (ar [] k a)/\void=e9
  (ar [] k a)/\0=fa (ar [] k a) a/\0=de [] k a))/\((!decide (g.dep<8))=false->true=true/\true=true/\((!(decide ((aE [] (Key.mk 2 (ab [] g.pos).oid (ab []
  g.pos).count void.call void.rights void.value) 15).kind=1)&&decide (1<=(aE [] (Key.mk 2 (ab [] g.pos).oid (ab [] g.pos).count void.call void.rights void.value) 15).value)&&decide
  ((aE [] (Key.mk 2 (ab [] g.pos).oid (ab [] g.pos).count void.call void.rights void.value) 15).value<=8)&&(decide (g.dep=0)||decide ((aE [] (Key.mk 2 (ab [] g.pos).oid (ab
  [] g.pos).count void.call void.rights void.value) 15).value<g.hi))))=true->((!decide (4=0))=true->void=bV (ar [] k a)/\0=bU (ar [] k a)/\void=cO (ar [] k a)/\0=dc
  (ar [] k a)/\4=ei (ar [] k a)/\g.kpr=e9 (ar [] k a)/\a=fa (ar [] k a) a/\0=de [] k a)/\((!decide (4=0))=false->ab [] g.pos=bV (ar [] k a)/\g.adr=bU
  (ar [] k a)/\g.kpr=cO (ar [] k a)/\g.dep=dc (ar [] k a)/\0=ei (ar [] k a)/\void=e9 (ar [] k a)/\0=fa (ar [] k a) a/\0=de [] k a))/\((!(decide ((aE []
  (Key.mk 2 (ab [] g.pos).oid (ab [] g.pos).count void.call void.rights void.value) 15).kind=1)&&decide (1<=(aE [] (Key.mk 2 (ab [] g.pos).oid (ab [] g.pos).count void.call
  void.rights void.value) 15).value)&&decide ((aE [] (Key.mk 2 (ab [] g.pos).oid (ab [] g.pos).count void.call void.rights void.value) 15).value<=8)&&(decide (g.dep=0)||decide
  ((aE [] (Key.mk 2 (ab [] g.pos).oid (ab [] g.pos).count void.call void.rights void.value) 15).value<g.hi))))=false->true=true/\((decide ((aE [] (Key.mk 2 (ab [] g.pos).oid
  (ab [] g.pos).count void.call void.rights void.value) 14).kind=6)&&decide (bd BinOp.and IntKind.i64 (bd BinOp.or IntKind.i64 g.rts (ab [] g.pos).rights) 4=0))=true->jb
  (aE [] (Key.mk 2 (ab [] g.pos).oid (ab [] g.pos).count void.call void.rights void.value) 15).value/\(mX (aY (aE [] (Key.mk 2 (ab [] g.pos).oid (ab [] g.pos).count
  void.call void.rights void.value) 15).value)/\aI IntKind.i64 (g.adr.tdiv (aY (aE [] (Key.mk 2 (ab [] g.pos).oid (ab [] g.pos).count void.call void.rights void.value) 15).value)))/\
  true=true/\((!decide (g.adr.tdiv (aY (aE [] (Key.mk 2 (ab [] g.pos).oid (ab [] g.pos).count void.call void.rights void.value) 15).value)<14))=true->((!decide (2=0))=true->
  void=bV (ar [] k a)/\0=bU (ar [] k a)/\void=cO (ar [] k a)/\0=dc (ar [] k a)/\2=ei (ar [] k a)/\aE [] (Key.mk 2 (ab [] g.pos).oid (ab [] g.pos).count
  void.call void.rights void.value) 14=e9 (ar [] k a)/\a=fa (ar [] k a) a/\0=de [] k a)/\((!decide (2=0))=false->ab [] g.pos=bV (ar [] k a)/\g.adr=bU (ar [] k a)
  /\aE [] (Key.mk 2 (ab [] g.pos).oid (ab [] g.pos).count void.call void.rights void.value) 14=cO (ar [] k a)/\g.dep=dc (ar [] k a)/\0=ei (ar [] k a)/\void=e9 (ar
  [] k a)/\0=fa (ar [] k a) a/\0=de [] k a))/\((!decide (g.adr.tdiv (aY (aE [] (Key.mk 2 (ab [] g.pos).oid (ab [] g.pos).count void.call void.rights void.value) 15).value)<
  14))=false->aI IntKind.i64 (g.dep+1)/\(mX (aY (aE [] (Key.mk 2 (ab [] g.pos).oid (ab [] g.pos).count void.call void.rights void.value) 15).value)/\aI IntKind.i64 (g.adr.tmod
  (aY (aE [] (Key.mk 2 (ab [] g.pos).oid (ab [] g.pos).count void.call void.rights void.value) 15).value)))/\∃g',mN [] k a 0 g'/\nU g'<nU g/\k=k/\void=void/\void=void
  /\void=void/\k=k/\Value.pointer none=Value.pointer none/\aE [] (ab [] g.pos) (g.adr.tdiv (aY (aE [] (Key.mk 2 (ab [] g.pos).oid (ab [] g.pos).count void.call
  void.rights void.value) 15).value))=g'.pos/\g.adr.tmod (aY (aE [] (Key.mk 2 (ab [] g.pos).oid (ab [] g.pos).count void.call void.rights void.value) 15).value)=g'.adr/\bd
  BinOp.or IntKind.i64 g.rts (ab [] g.pos).rights=g'.rts/\aE [] (Key.mk 2 (ab [] g.pos).oid (ab [] g.pos).count void.call void.rights void.value) 14=g'.kpr/\g.dep+1=g'.dep/\
  (aE [] (Key.mk 2 (ab [] g.pos).oid (ab [] g.pos).count void.call void.rights void.value) 15).value=g'.hi/\false=false))/\((decide ((aE [] (Key.mk 2 (ab [] g.pos).oid (ab
  [] g.pos).count void.call void.rights void.value) 14).kind=6)&&decide (bd BinOp.and IntKind.i64 (bd BinOp.or IntKind.i64 g.rts (ab [] g.pos).rights) 4=0))=false->jb (aE []
  (Key.mk 2 (ab [] g.pos).oid (ab [] g.pos).count void.call void.rights void.value) 15).value/\(mX (aY (aE [] (Key.mk 2 (ab [] g.pos).oid (ab [] g.pos).count void.call
  void.rights void.value) 15).value)/\aI IntKind.i64 (g.adr.tdiv (aY (aE [] (Key.mk 2 (ab [] g.pos).oid (ab [] g.pos).count void.call void.rights void.value) 15).value)))/\true=true
  /\((!decide (g.adr.tdiv (aY (aE [] (Key.mk 2 (ab [] g.pos).oid (ab [] g.pos).count void.call void.rights void.value) 15).value)<14))=true->((!decide (2=0))=true->void=bV
  (ar [] k a)/\0=bU (ar [] k a)/\void=cO (ar [] k a)/\0=dc (ar [] k a)/\2=ei (ar [] k a)/\g.kpr=e9 (ar [] k a)/\a=fa (ar [] k a) a/\0=de [] k a)/\
  ((!decide (2=0))=false->ab [] g.pos=bV (ar [] k a)/\g.adr=bU (ar [] k a)/\g.kpr=cO (ar [] k a)/\g.dep=dc (ar [] k a)/\0=ei (ar [] k a)/\void=e9 (ar []
  k a)/\0=fa (ar [] k a) a/\0=de [] k a))/\((!decide (g.adr.tdiv (aY (aE [] (Key.mk 2 (ab [] g.pos).oid (ab [] g.pos).count void.call void.rights void.value) 15).value)<
  14))=false->aI IntKind.i64 (g.dep+1)/\(mX (aY (aE [] (Key.mk 2 (ab [] g.pos).oid (ab [] g.pos).count void.call void.rights void.value) 15).value)/\aI IntKind.i64 (g.adr.tmod
  (aY (aE [] (Key.mk 2 (ab [] g.pos).oid (ab [] g.pos).count void.call void.rights void.value) 15).value)))/\∃g',mN [] k a 0 g'/\nU g'<nU g/\k=k/\void=void/\void=void
  /\void=void/\k=k/\Value.pointer none=Value.pointer none/\aE [] (ab [] g.pos) (g.adr.tdiv (aY (aE [] (Key.mk 2 (ab [] g.pos).oid (ab [] g.pos).count void.call
  void.rights void.value) 15).value))=g'.pos/\g.adr.tmod (aY (aE [] (Key.mk 2 (ab [] g.pos).oid (ab [] g.pos).count void.call void.rights void.value) 15).value)=g'.adr/\bd
  BinOp.or IntKind.i64 g.rts (ab [] g.pos).rights=g'.rts/\g.kpr=g'.kpr/\g.dep+1=g'.dep/\(aE [] (Key.mk 2 (ab [] g.pos).oid (ab [] g.pos).count void.call void.rights void.value)
  15).value=g'.hi/\false=false)))))/\(decide ((ab [] g.pos).kind=2)=false->False)))))):=by
 refine⟨rfl,fun h=>wJ (VI h) (by omega),fun h=>absurd h (by decide)⟩
theorem Kw (k:Key) (a:Int) (ha:cg .i64 a):ai Tryz.prog 196 [k9,.key k,.it .i64 a] [] (nz (Da [] k a)) (fun _ _=>False):=
 aV (inl:=(fun f=>f==195||f==202||f==205||f==206||f==207||f==208)) (ann:=(jC [(202,2,U7 [0,2] (fun _=> []) 0 (fun g=> .blk tW (Xf (k9) g)) (mN [] k a 0) nU)])) (ae Ca (ae bB (ae jf (ae eV (ae kV (ae FD (ae qP an))))))) aC (eD E2) (Jk k a ha) (by kernel_rfl)
theorem PW (L:List Sx.Obj) (k:Key) (a:Int) (ha:cg .i64 a):
 true=true/\(decide (ak L=0)=true->void=bV (ar L k a)/\0=bU (ar L k a)/\void=cO (ar L k a)/\0=dc (ar L k a)/\0=ei (ar L k a)/\void=e9 (ar L k a)/\0
  =fa (ar L k a) a/\1=de L k a)/\(decide (ak L=0)=false->((!decide (bD k=0)||bg k&&decide (ak L<=cR k))=true->void=bV (ar L k a)/\0=bU (ar L k a)
  /\void=cO (ar L k a)/\0=dc (ar L k a)/\0=ei (ar L k a)/\void=e9 (ar L k a)/\0=fa (ar L k a) a/\2=de L k a)/\((!decide (bD k=0)||bg k&&decide
  (ak L<=cR k))=false->(decide (a<0)=true->void=bV (ar L k a)/\0=bU (ar L k a)/\void=cO (ar L k a)/\0=dc (ar L k a)/\0=ei (ar L k a)/\void=e9 (ar
  L k a)/\0=fa (ar L k a) a/\4=de L k a)/\(decide (a<0)=false->true=true/\(∃g,mN L k a 0 g/\L=L/\k=k/\void=void/\void=void/\void=void/\k=k/\k=g.pos/\a=
  g.adr/\0=g.rts/\void=g.kpr/\0=g.dep/\0=g.hi/\false=false)/\∀(g:Wk),mN L k a 0 g->true=true/\((!(decide ((ab L g.pos).kind=3)||decide ((ab L g.pos).kind=2)))=
  true->((!decide (1=0))=true->void=bV (ar L k a)/\0=bU (ar L k a)/\void=cO (ar L k a)/\0=dc (ar L k a)/\1=ei (ar L k a)/\g.kpr=e9 (ar L k a)/\a=fa
  (ar L k a) a/\0=de L k a)/\((!decide (1=0))=false->ab L g.pos=bV (ar L k a)/\g.adr=bU (ar L k a)/\g.kpr=cO (ar L k a)/\g.dep=dc (ar L k a)/\0=ei (ar L
  k a)/\void=e9 (ar L k a)/\0=fa (ar L k a) a/\0=de L k a))/\((!(decide ((ab L g.pos).kind=3)||decide ((ab L g.pos).kind=2)))=false->(decide ((ab L g.pos).kind=
  3)=true->true=true/\true=true/\((!decide (g.adr<64))=true->((!decide (2=0))=true->void=bV (ar L k a)/\0=bU (ar L k a)/\void=cO (ar L k a)/\0=dc (ar L k a)
  /\2=ei (ar L k a)/\g.kpr=e9 (ar L k a)/\a=fa (ar L k a) a/\0=de L k a)/\((!decide (2=0))=false->ab L g.pos=bV (ar L k a)/\g.adr=bU (ar L k a)/\g.kpr=
  cO (ar L k a)/\g.dep=dc (ar L k a)/\0=ei (ar L k a)/\void=e9 (ar L k a)/\0=fa (ar L k a) a/\0=de L k a))/\((!decide (g.adr<64))=false->((!decide (bd
  BinOp.and IntKind.i64 g.rts 3=0))=true->Key.mk (ab L g.pos).kind (ab L g.pos).oid (ab L g.pos).count (ab L g.pos).call (bd BinOp.or IntKind.i64 (ab L g.pos).rights 1)
  (ab L g.pos).value=bV (ar L k a)/\g.adr=bU (ar L k a)/\g.kpr=cO (ar L k a)/\g.dep=dc (ar L k a)/\0=ei (ar L k a)/\void=e9 (ar L k a)/\0=fa (ar L k a)
  a/\0=de L k a)/\((!decide (bd BinOp.and IntKind.i64 g.rts 3=0))=false->ab L g.pos=bV (ar L k a)/\g.adr=bU (ar L k a)/\g.kpr=cO (ar L k a)/\g.dep=dc (ar L k
  a)/\0=ei (ar L k a)/\void=e9 (ar L k a)/\0=fa (ar L k a) a/\0=de L k a)))/\(decide ((ab L g.pos).kind=3)=false->(decide ((ab L g.pos).kind=2)=true->true=
  true/\true=true/\((!decide (g.dep<8))=true->((!decide (3=0))=true->void=bV (ar L k a)/\0=bU (ar L k a)/\void=cO (ar L k a)/\0=dc (ar L k a)/\3=ei (ar L k
  a)/\g.kpr=e9 (ar L k a)/\a=fa (ar L k a) a/\0=de L k a)/\((!decide (3=0))=false->ab L g.pos=bV (ar L k a)/\g.adr=bU (ar L k a)/\g.kpr=cO (ar L k a)/\
  g.dep=dc (ar L k a)/\0=ei (ar L k a)/\void=e9 (ar L k a)/\0=fa (ar L k a) a/\0=de L k a))/\((!decide (g.dep<8))=false->true=true/\true=true/\((!(decide
  ((aE L (Key.mk 2 (ab L g.pos).oid (ab L g.pos).count void.call void.rights void.value) 15).kind=1)&&decide (1<=(aE L (Key.mk 2 (ab L g.pos).oid (ab L g.pos).count void.call
  void.rights void.value) 15).value)&&decide ((aE L (Key.mk 2 (ab L g.pos).oid (ab L g.pos).count void.call void.rights void.value) 15).value<=8)&&(decide (g.dep=0)||decide ((aE
  L (Key.mk 2 (ab L g.pos).oid (ab L g.pos).count void.call void.rights void.value) 15).value<g.hi))))=true->((!decide (4=0))=true->void=bV (ar L k a)/\0=bU (ar L k a)/\
  void=cO (ar L k a)/\0=dc (ar L k a)/\4=ei (ar L k a)/\g.kpr=e9 (ar L k a)/\a=fa (ar L k a) a/\0=de L k a)/\((!decide (4=0))=false->ab L g.pos=bV
  (ar L k a)/\g.adr=bU (ar L k a)/\g.kpr=cO (ar L k a)/\g.dep=dc (ar L k a)/\0=ei (ar L k a)/\void=e9 (ar L k a)/\0=fa (ar L k a) a/\0=de L k a))/\
  ((!(decide ((aE L (Key.mk 2 (ab L g.pos).oid (ab L g.pos).count void.call void.rights void.value) 15).kind=1)&&decide (1<=(aE L (Key.mk 2 (ab L g.pos).oid (ab L
  g.pos).count void.call void.rights void.value) 15).value)&&decide ((aE L (Key.mk 2 (ab L g.pos).oid (ab L g.pos).count void.call void.rights void.value) 15).value<=8)&&(decide (g.dep=
  0)||decide ((aE L (Key.mk 2 (ab L g.pos).oid (ab L g.pos).count void.call void.rights void.value) 15).value<g.hi))))=false->true=true/\((decide ((aE L (Key.mk 2 (ab L
  g.pos).oid (ab L g.pos).count void.call void.rights void.value) 14).kind=6)&&decide (bd BinOp.and IntKind.i64 (bd BinOp.or IntKind.i64 g.rts (ab L g.pos).rights) 4=0))=true->
  jb (aE L (Key.mk 2 (ab L g.pos).oid (ab L g.pos).count void.call void.rights void.value) 15).value/\(mX (aY (aE L (Key.mk 2 (ab L g.pos).oid (ab L g.pos).count
  void.call void.rights void.value) 15).value)/\aI IntKind.i64 (g.adr.tdiv (aY (aE L (Key.mk 2 (ab L g.pos).oid (ab L g.pos).count void.call void.rights void.value) 15).value)))/\true
  =true/\((!decide (g.adr.tdiv (aY (aE L (Key.mk 2 (ab L g.pos).oid (ab L g.pos).count void.call void.rights void.value) 15).value)<14))=true->((!decide (2=0))=true->void=
  bV (ar L k a)/\0=bU (ar L k a)/\void=cO (ar L k a)/\0=dc (ar L k a)/\2=ei (ar L k a)/\aE L (Key.mk 2 (ab L g.pos).oid (ab L g.pos).count void.call
  void.rights void.value) 14=e9 (ar L k a)/\a=fa (ar L k a) a/\0=de L k a)/\((!decide (2=0))=false->ab L g.pos=bV (ar L k a)/\g.adr=bU (ar L k a)/\aE L
  (Key.mk 2 (ab L g.pos).oid (ab L g.pos).count void.call void.rights void.value) 14=cO (ar L k a)/\g.dep=dc (ar L k a)/\0=ei (ar L k a)/\void=e9 (ar L k a)/\0=fa
  (ar L k a) a/\0=de L k a))/\((!decide (g.adr.tdiv (aY (aE L (Key.mk 2 (ab L g.pos).oid (ab L g.pos).count void.call void.rights void.value) 15).value)<14))=false->aI
  IntKind.i64 (g.dep+1)/\(mX (aY (aE L (Key.mk 2 (ab L g.pos).oid (ab L g.pos).count void.call void.rights void.value) 15).value)/\aI IntKind.i64 (g.adr.tmod (aY (aE L
  (Key.mk 2 (ab L g.pos).oid (ab L g.pos).count void.call void.rights void.value) 15).value)))/\∃g',mN L k a 0 g'/\nU g'<nU g/\L=L/\k=k/\void=void/\void=void/\void=void
  /\k=k/\aE L (ab L g.pos) (g.adr.tdiv (aY (aE L (Key.mk 2 (ab L g.pos).oid (ab L g.pos).count void.call void.rights void.value) 15).value))=g'.pos/\g.adr.tmod (aY
  (aE L (Key.mk 2 (ab L g.pos).oid (ab L g.pos).count void.call void.rights void.value) 15).value)=g'.adr/\bd BinOp.or IntKind.i64 g.rts (ab L g.pos).rights=g'.rts/\aE L
  (Key.mk 2 (ab L g.pos).oid (ab L g.pos).count void.call void.rights void.value) 14=g'.kpr/\g.dep+1=g'.dep/\(aE L (Key.mk 2 (ab L g.pos).oid (ab L g.pos).count void.call
  void.rights void.value) 15).value=g'.hi/\false=false))/\((decide ((aE L (Key.mk 2 (ab L g.pos).oid (ab L g.pos).count void.call void.rights void.value) 14).kind=6)&&decide (bd
  BinOp.and IntKind.i64 (bd BinOp.or IntKind.i64 g.rts (ab L g.pos).rights) 4=0))=false->jb (aE L (Key.mk 2 (ab L g.pos).oid (ab L g.pos).count void.call void.rights
  void.value) 15).value/\(mX (aY (aE L (Key.mk 2 (ab L g.pos).oid (ab L g.pos).count void.call void.rights void.value) 15).value)/\aI IntKind.i64 (g.adr.tdiv (aY (aE L
  (Key.mk 2 (ab L g.pos).oid (ab L g.pos).count void.call void.rights void.value) 15).value)))/\true=true/\((!decide (g.adr.tdiv (aY (aE L (Key.mk 2 (ab L g.pos).oid (ab L
  g.pos).count void.call void.rights void.value) 15).value)<14))=true->((!decide (2=0))=true->void=bV (ar L k a)/\0=bU (ar L k a)/\void=cO (ar L k a)/\0=dc (ar L k a)
  /\2=ei (ar L k a)/\g.kpr=e9 (ar L k a)/\a=fa (ar L k a) a/\0=de L k a)/\((!decide (2=0))=false->ab L g.pos=bV (ar L k a)/\g.adr=bU (ar L k a)/\g.kpr=
  cO (ar L k a)/\g.dep=dc (ar L k a)/\0=ei (ar L k a)/\void=e9 (ar L k a)/\0=fa (ar L k a) a/\0=de L k a))/\((!decide (g.adr.tdiv (aY (aE L (Key.mk 2 (ab
  L g.pos).oid (ab L g.pos).count void.call void.rights void.value) 15).value)<14))=false->aI IntKind.i64 (g.dep+1)/\(mX (aY (aE L (Key.mk 2 (ab L g.pos).oid (ab L
  g.pos).count void.call void.rights void.value) 15).value)/\aI IntKind.i64 (g.adr.tmod (aY (aE L (Key.mk 2 (ab L g.pos).oid (ab L g.pos).count void.call void.rights void.value)
  15).value)))/\∃g',mN L k a 0 g'/\nU g'<nU g/\L=L/\k=k/\void=void/\void=void/\void=void/\k=k/\aE L (ab L g.pos) (g.adr.tdiv (aY (aE L (Key.mk 2 (ab L
  g.pos).oid (ab L g.pos).count void.call void.rights void.value) 15).value))=g'.pos/\g.adr.tmod (aY (aE L (Key.mk 2 (ab L g.pos).oid (ab L g.pos).count void.call void.rights
  void.value) 15).value)=g'.adr/\bd BinOp.or IntKind.i64 g.rts (ab L g.pos).rights=g'.rts/\g.kpr=g'.kpr/\g.dep+1=g'.dep/\(aE L (Key.mk 2 (ab L g.pos).oid (ab L
  g.pos).count void.call void.rights void.value) 15).value=g'.hi/\false=false)))))/\(decide ((ab L g.pos).kind=2)=false->False)))))):=by
 refine⟨rfl,fun h=>wJ (VI h) (by omega),fun h=>⟨fun h2=>?_,fun h2=>⟨fun h3=>?_,fun h3=>⟨rfl,?_,fun g hI=>⟨rfl,?_⟩⟩⟩⟩⟩
 ·rw[zW,Bool.not_eq_true']at h2;exact wJ (by rw[Oc h,h2];rfl) (by omega)
 ·rw[zW,Bool.not_eq_false']at h2;exact wJ (by rw[Oc h,h2,XR rfl,XR (XO h3)]) (by omega)
 ·refine⟨vF k a 0,VC (XN h3) 0,?_⟩;repeat' apply And.intro
  all_goals rfl
 rw[zW,Bool.not_eq_false']at h2;have hE:de L k a=0:=by rw[Oc h,h2,XR rfl,XQ (XN h3)]
 clear h h2 h3;obtain⟨⟨a1,a2⟩,⟨r1,r2⟩,⟨d1,d2⟩,e1,e2,e3⟩:=id hI;refine⟨fun v=>⟨fun _=>?_,fun h=>absurd h (by decide)⟩,fun v=>⟨fun v3=>⟨rfl,rfl,fun b=>⟨fun _=>?_,fun h=>absurd h (by decide)⟩,fun b=>⟨fun ro=>?_,fun ro=>?_⟩⟩,fun v3=>⟨fun v2=>?_,fun v2=>?_⟩⟩⟩
 ·simp only[Bool.not_eq_true',Bool.or_eq_false_iff,decide_eq_false_iff_not]at v;exact oY hI hE (FM d1 d2 v.1 v.2) (by omega)
 ·have v3:=XO v3;exact oY hI hE (JU d1 d2 v3 (by simpa using b)) (by omega)
 ·have v3:=XO v3;have hb:g.adr<64:=by simpa using b
  have hp:=gS (oM L g.pos);have hm:eN (ab L g.pos).kind=1:=by rw[v3];rfl
  rw[Nx r1 r2]at ro;have ro:g.rts.tmod 4≠0:=by simpa using ro
  refine E7 hI hE ((wa d1 d2 v3 hb).trans ?_);rw[CM hp.1 (by omega)]
  unfold nw;rw[XQ ro];rfl
 ·have v3:=XO v3;have hb:g.adr<64:=by simpa using b
  rw[Nx r1 r2]at ro;have ro:g.rts.tmod 4=0:=by simpa using ro
  refine E7 hI hE ((wa d1 d2 v3 hb).trans ?_);unfold nw;rw[XR ro]
 ·have v3:=XN v3;have v2:=XO v2;obtain⟨pe,pi⟩:=An (.inl v2);have pi':aU L (ab L g.pos)=true:=by rw[pe];exact pi
  have hp:=nJ (oM L g.pos);have ho:=Te r1 r2 hp.1 hp.2;rw[IZ (i:=15) pi' v2 (by omega) (by omega),IZ (i:=14) pi' v2 (by omega) (by omega),ho.1,W5 ho.2.1 ho.2.2]
  refine⟨rfl,rfl,fun b=>⟨fun _=>?_,fun h=>absurd h (by decide)⟩,fun b=>⟨rfl,rfl,fun f=>⟨fun _=>?_,fun h=>absurd h (by decide)⟩,fun f=>⟨rfl,?_⟩⟩⟩
  ·exact oY hI hE (I4 d1 d2 v2 (by simpa using b)) (by omega)
  ·have b:g.dep<8:=by simpa using b
   exact oY hI hE (FW d1 d2 v2 b (by unfold o7;rw[Bool.not_eq_true']at f;exact f)) (by omega)
  ·have b:g.dep<8:=by simpa using b
   have f:o7 g (cN L (cL (ab L g.pos) 0) 15)=true:=by unfold o7;rw[Bool.not_eq_false']at f;exact f
   have hf':=tD.1 f;have he:=qs (show(cN L (cL (ab L g.pos) 0) 15).value<=9 by omega)
   have hd:=qG a1 he.1;have q1:jb (cN L (cL (ab L g.pos) 0) 15).value:=⟨by omega,by omega⟩
   have q2:mX (aY (cN L (cL (ab L g.pos) 0) 15).value):=by unfold mX;omega
   unfold cg at ha;have q3:aI IntKind.i64 (g.adr.tdiv (aY (cN L (cL (ab L g.pos) 0) 15).value)):=by simp only[aI,cg];omega
   have q4:aI IntKind.i64 (g.adr.tmod (aY (cN L (cL (ab L g.pos) 0) 15).value)):=by simp only[aI,cg];omega
   have q5:aI IntKind.i64 (g.dep+1):=by simp only[aI,cg];omega
   have kp:∀b,(decide ((cN L (cL (ab L g.pos) 0) 14).kind=6)&&decide (mB g.rts (ab L g.pos).rights<4))=b->uL (mB g.rts (ab L g.pos).rights) (cN L (cL (ab L g.pos) 0) 14) g.kpr=if b then cN L (cL (ab L g.pos) 0) 14 else g.kpr:=by
    intro b hb;unfold uL;cases b
    ·simp only[Bool.and_eq_false_iff,decide_eq_false_iff_not]at hb;rw[XQ (by omega)];rfl
    ·simp only[XK,XL]at hb;rw[XR hb];rfl
   refine⟨fun c=>⟨q1,⟨q2,q3⟩,rfl,fun s=>⟨fun _=>?_,fun h=>absurd h (by decide)⟩,fun s=>⟨q5,⟨q2,q4⟩,KS L g,?_⟩⟩,fun c=>⟨q1,⟨q2,q3⟩,rfl,fun s=>⟨fun _=>?_,fun h=>absurd h (by decide)⟩,fun s=>⟨q5,⟨q2,q4⟩,KS L g,?_⟩⟩⟩
   ·exact oY hI hE ((Aa d1 d2 v2 b f (by simpa using s)).trans (by rw[kp _ c];rfl)) (by omega)
   ·have s:g.adr.tdiv (aY (cN L (cL (ab L g.pos) 0) 15).value)<14:=by simpa using s
    obtain⟨n1,n2⟩:=KX hI v2 b f s;rw[DA pi' v2 hd.1 (by omega)]
    refine⟨n1,n2,rfl,rfl,rfl,rfl,rfl,rfl,rfl,rfl,rfl,?_,rfl,rfl,rfl⟩;show _=uL _ _ _
    rw[kp _ c];rfl
   ·exact oY hI hE ((Aa d1 d2 v2 b f (by simpa using s)).trans (by rw[kp _ c];rfl)) (by omega)
   ·have s:g.adr.tdiv (aY (cN L (cL (ab L g.pos) 0) 15).value)<14:=by simpa using s
    obtain⟨n1,n2⟩:=KX hI v2 b f s;rw[DA pi' v2 hd.1 (by omega)]
    refine⟨n1,n2,rfl,rfl,rfl,rfl,rfl,rfl,rfl,rfl,rfl,?_,rfl,rfl,rfl⟩;show _=uL _ _ _
    rw[kp _ c];rfl
 ·simp only[Bool.not_eq_false',Bool.or_eq_true,XL]at v;have v3:=XN v3;have v2:=XN v2;omega
theorem Ol (L:List Sx.Obj) (k:Key) (a:Int) (ha:cg .i64 a):ai Tryz.prog 196 [.lp 0 0,.key k,.it .i64 a] [.ro (.store tS eS L)] (nz (Da L k a)) (fun _ _=>False):=
 aV (inl:=(fun f=>f==195||f==202||f==205||f==206||f==207||f==208)) (ann:=(jC [(202,2,U7 [0,2] (fun _=> []) 0 (fun g=> .blk tW (Xf (.lp 0 0) g)) (mN L k a 0) nU)])) (ae Ca (ae bB (ae jf (ae eV (ae kV (ae FD (ae qP an))))))) aC (eD E2) (PW L k a ha) (by kernel_rfl)
theorem Fg:cj Tryz.prog 196 TH:=
 eY (aJ tf (aJ gM (aJ fl cK))) (fun _=>rfl) fun a hq hok=>by
  obtain⟨S,k,i,_⟩:=a;cases S with
  |none=>exact Kw k i hok.2.2.1
  |some L=>exact Ol L k i hok.2.2.1
theorem JS (L:List Sx.Obj) (k:Key) (a:Int) (ha:cg .i64 a) (hL:aq L):
 (decide (cw (aj L)=0)=true->void=bV (ar L k a)/\0=bU (ar L k a)/\void=cO (ar L k a)/\0=dc (ar L k a)/\0=ei (ar L k a)/\void=e9 (ar L k a)/\0=fa
  (ar L k a) a/\1=de L k a)/\(decide (cw (aj L)=0)=false->((!cZ L k)=true->void=bV (ar L k a)/\0=bU (ar L k a)/\void=cO (ar L k a)/\0=dc (ar L k a)/\0=
  ei (ar L k a)/\void=e9 (ar L k a)/\0=fa (ar L k a) a/\2=de L k a)/\((!cZ L k)=false->(decide (a<0)=true->void=bV (ar L k a)/\0=bU (ar L k a)/\void=
  cO (ar L k a)/\0=dc (ar L k a)/\0=ei (ar L k a)/\void=e9 (ar L k a)/\0=fa (ar L k a) a/\4=de L k a)/\(decide (a<0)=false->(∃g,mN L k a 99 g/\a=a/\a=
  g.adr/\0=g.rts/\99=g.hi/\0=g.dep/\L=L/\k=k/\void=void/\void=void/\void=void/\k=g.pos/\void=g.kpr)/\∀(g:Wk),mN L k a 99 g->(decide (g.dep<20)=true->((!aU L
  g.pos|| !decide (g.pos.kind=2)&& !decide (g.pos.kind=3))=true->void=bV (ar L k a)/\0=bU (ar L k a)/\void=cO (ar L k a)/\0=dc (ar L k a)/\1=ei (ar L k a)/\
  g.kpr=e9 (ar L k a)/\a=fa (ar L k a) a/\0=de L k a)/\((!aU L g.pos|| !decide (g.pos.kind=2)&& !decide (g.pos.kind=3))=false->(decide (g.pos.kind=3)=true->(decide (63
  <g.adr)=true->void=bV (ar L k a)/\0=bU (ar L k a)/\void=cO (ar L k a)/\0=dc (ar L k a)/\2=ei (ar L k a)/\g.kpr=e9 (ar L k a)/\a=fa (ar L k a) a/\0=
  de L k a)/\(decide (63<g.adr)=false->(mX 4/\aI IntKind.i64 (g.rts.tmod 4))/\((!decide (g.rts.tmod 4=0))=true->Key.mk g.pos.kind g.pos.oid g.pos.count g.pos.call 1 g.pos.value=bV
  (ar L k a)/\g.adr=bU (ar L k a)/\g.kpr=cO (ar L k a)/\g.dep=dc (ar L k a)/\0=ei (ar L k a)/\void=e9 (ar L k a)/\0=fa (ar L k a) a/\0=de L k a)/\
  ((!decide (g.rts.tmod 4=0))=false->g.pos=bV (ar L k a)/\g.adr=bU (ar L k a)/\g.kpr=cO (ar L k a)/\g.dep=dc (ar L k a)/\0=ei (ar L k a)/\void=e9 (ar L k a)
  /\0=fa (ar L k a) a/\0=de L k a)))/\(decide (g.pos.kind=3)=false->(decide (8<=g.dep)=true->void=bV (ar L k a)/\0=bU (ar L k a)/\void=cO (ar L k a)/\0=dc
  (ar L k a)/\3=ei (ar L k a)/\g.kpr=e9 (ar L k a)/\a=fa (ar L k a) a/\0=de L k a)/\(decide (8<=g.dep)=false->(∃g_1,jL g_1/\a=a/\g.adr=g.adr/\g.rts=fi
  g.rts g.pos.rights g_1/\g.hi=g.hi/\g.dep=g.dep/\1=g_1/\L=L/\k=k/\void=void/\void=void/\void=void/\g.pos=g.pos/\g.kpr=g.kpr/\g.kpr=g.kpr/\a=a)/\∀(g_1:Int),jL
  g_1->(decide (g_1<=4)=true->(mX g_1/\aI IntKind.i64 (g.pos.rights.tdiv g_1))/\(mX 2/\aI IntKind.i64 ((g.pos.rights.tdiv g_1).tmod 2))/\(decide ((g.pos.rights.tdiv g_1).tmod 2=1)=true
  ->mX g_1/\aI IntKind.i64 ((fi g.rts g.pos.rights g_1).tdiv g_1))/\(decide ((g.pos.rights.tdiv g_1).tmod 2=1)=true->mX 2/\aI IntKind.i64 (((fi g.rts g.pos.rights g_1).tdiv g_1).tmod
  2))/\((decide ((g.pos.rights.tdiv g_1).tmod 2=1)&&decide (((fi g.rts g.pos.rights g_1).tdiv g_1).tmod 2=0))=true->aI IntKind.i64 (fi g.rts g.pos.rights g_1+g_1)/\aI IntKind.i64
  (g_1*2)/\∃g',jL g'/\(8-g').toNat<(8-g_1).toNat/\a=a/\g.adr=g.adr/\fi g.rts g.pos.rights g_1+g_1=fi g.rts g.pos.rights g'/\g.hi=g.hi/\g.dep=g.dep/\g_1*2=g'/\
  L=L/\k=k/\void=void/\void=void/\void=void/\g.pos=g.pos/\g.kpr=g.kpr/\g.kpr=g.kpr/\a=a)/\((decide ((g.pos.rights.tdiv g_1).tmod 2=1)&&decide (((fi g.rts g.pos.rights
  g_1).tdiv g_1).tmod 2=0))=false->aI IntKind.i64 (g_1*2)/\∃g',jL g'/\(8-g').toNat<(8-g_1).toNat/\a=a/\g.adr=g.adr/\fi g.rts g.pos.rights g_1=fi g.rts g.pos.rights
  g'/\g.hi=g.hi/\g.dep=g.dep/\g_1*2=g'/\L=L/\k=k/\void=void/\void=void/\void=void/\g.pos=g.pos/\g.kpr=g.kpr/\g.kpr=g.kpr/\a=a))/\(decide (g_1<=4)=false->(0<=
  g.pos.oid/\g.pos.oid< ↑(aj L))/\g.pos.oid.toNat<aj L/\((!decide (((ah L g.pos.oid.toNat free).slots.at 15).kind=1)||decide (((ah L g.pos.oid.toNat free).slots.at 15).value<1)||
  decide (8<((ah L g.pos.oid.toNat free).slots.at 15).value)||decide (g.hi<=((ah L g.pos.oid.toNat free).slots.at 15).value))=true->void=bV (ar L k a)/\0=bU (ar L k a)/\void=
  cO (ar L k a)/\0=dc (ar L k a)/\4=ei (ar L k a)/\g.kpr=e9 (ar L k a)/\a=fa (ar L k a) a/\0=de L k a)/\((!decide (((ah L g.pos.oid.toNat free).slots.at 15).kind=
  1)||decide (((ah L g.pos.oid.toNat free).slots.at 15).value<1)||decide (8<((ah L g.pos.oid.toNat free).slots.at 15).value)||decide (g.hi<=((ah L g.pos.oid.toNat free).slots.at
  15).value))=false->((decide ((ab L ((ah L g.pos.oid.toNat free).slots.at 14)).kind=6)&&decide (fi g.rts g.pos.rights g_1<4))=true->jb ((ah L g.pos.oid.toNat free).slots.at
  15).value/\(mX (aY ((ah L g.pos.oid.toNat free).slots.at 15).value)/\aI IntKind.i64 (g.adr.tdiv (aY ((ah L g.pos.oid.toNat free).slots.at 15).value)))/\(decide (13<g.adr.tdiv
  (aY ((ah L g.pos.oid.toNat free).slots.at 15).value))=true->void=bV (ar L k a)/\0=bU (ar L k a)/\void=cO (ar L k a)/\0=dc (ar L k a)/\2=ei (ar L k a)/\ab
  L ((ah L g.pos.oid.toNat free).slots.at 14)=e9 (ar L k a)/\a=fa (ar L k a) a/\0=de L k a)/\(decide (13<g.adr.tdiv (aY ((ah L g.pos.oid.toNat free).slots.at 15).value))=
  false->jb ((ah L g.pos.oid.toNat free).slots.at 15).value/\(mX (aY ((ah L g.pos.oid.toNat free).slots.at 15).value)/\aI IntKind.i64 (g.adr.tmod (aY ((ah L g.pos.oid.toNat
  free).slots.at 15).value)))/\mZ L g.pos (g.adr.tdiv (aY ((ah L g.pos.oid.toNat free).slots.at 15).value))/\aI IntKind.i64 (g.dep+1)/\∃g',mN L k a 99 g'/\nU g'<nU g/\a=a
  /\g.adr.tmod (aY ((ah L g.pos.oid.toNat free).slots.at 15).value)=g'.adr/\fi g.rts g.pos.rights g_1=g'.rts/\((ah L g.pos.oid.toNat free).slots.at 15).value=g'.hi/\g.dep+1=g'.dep
  /\L=L/\k=k/\void=void/\void=void/\void=void/\cN L g.pos (g.adr.tdiv (aY ((ah L g.pos.oid.toNat free).slots.at 15).value))=g'.pos/\ab L ((ah L g.pos.oid.toNat
  free).slots.at 14)=g'.kpr))/\((decide ((ab L ((ah L g.pos.oid.toNat free).slots.at 14)).kind=6)&&decide (fi g.rts g.pos.rights g_1<4))=false->jb ((ah L g.pos.oid.toNat
  free).slots.at 15).value/\(mX (aY ((ah L g.pos.oid.toNat free).slots.at 15).value)/\aI IntKind.i64 (g.adr.tdiv (aY ((ah L g.pos.oid.toNat free).slots.at 15).value)))/\(decide (13<
  g.adr.tdiv (aY ((ah L g.pos.oid.toNat free).slots.at 15).value))=true->void=bV (ar L k a)/\0=bU (ar L k a)/\void=cO (ar L k a)/\0=dc (ar L k a)/\2=ei (ar L k
  a)/\g.kpr=e9 (ar L k a)/\a=fa (ar L k a) a/\0=de L k a)/\(decide (13<g.adr.tdiv (aY ((ah L g.pos.oid.toNat free).slots.at 15).value))=false->jb ((ah L
  g.pos.oid.toNat free).slots.at 15).value/\(mX (aY ((ah L g.pos.oid.toNat free).slots.at 15).value)/\aI IntKind.i64 (g.adr.tmod (aY ((ah L g.pos.oid.toNat free).slots.at 15).value)))/\
  mZ L g.pos (g.adr.tdiv (aY ((ah L g.pos.oid.toNat free).slots.at 15).value))/\aI IntKind.i64 (g.dep+1)/\∃g',mN L k a 99 g'/\nU g'<nU g/\a=a/\g.adr.tmod (aY ((ah L
  g.pos.oid.toNat free).slots.at 15).value)=g'.adr/\fi g.rts g.pos.rights g_1=g'.rts/\((ah L g.pos.oid.toNat free).slots.at 15).value=g'.hi/\g.dep+1=g'.dep/\L=L/\k=k/\void=void
  /\void=void/\void=void/\cN L g.pos (g.adr.tdiv (aY ((ah L g.pos.oid.toNat free).slots.at 15).value))=g'.pos/\g.kpr=g'.kpr))))))))/\(decide (g.dep<20)=false->void=bV (ar
  L k a)/\0=bU (ar L k a)/\void=cO (ar L k a)/\0=dc (ar L k a)/\0=ei (ar L k a)/\void=e9 (ar L k a)/\0=fa (ar L k a) a/\2=de L k a)))):=by
 refine⟨fun h=>wJ (VI h) (by omega),fun h=>⟨fun h2=>?_,fun h2=>⟨fun h3=>?_,fun h3=>⟨?_,fun g hI=>⟨fun _=>?_,fun hd=>?_⟩⟩⟩⟩⟩
 ·rw[Bool.not_eq_true']at h2;exact wJ (by rw[Oc h,h2];rfl) (by omega)
 ·rw[Bool.not_eq_false']at h2;exact wJ (by rw[Oc h,h2,XR rfl,XR (XO h3)]) (by omega)
 ·refine⟨vF k a 99,VC (XN h3) 99,?_⟩;repeat' apply And.intro
  all_goals rfl
 rotate_left
 ·have:=hI.2.2.1.2;have:=XN hd;omega
 rw[Bool.not_eq_false']at h2;have hE:de L k a=0:=by rw[Oc h,h2,XR rfl,XQ (XN h3)]
 clear h h2 h3;obtain⟨⟨a1,a2⟩,⟨r1,r2⟩,⟨d1,d2⟩,e1,e2,e3⟩:=id hI;refine⟨fun v=>?_,fun v=>?_⟩
 ·have hv:∀d:Int,d=2\/d=3->(ab L g.pos).kind≠d:=fun d hd hk=>by
   obtain⟨p1,p2⟩:=An (L:=L) (k:=g.pos) (by rw[hk];exact hd)
   rw[p1]at hk;rw[p2,hk]at v;rcases hd with rfl|rfl<;>simp at v
  exact oY hI hE (FM d1 d2 (hv 3 (.inr rfl)) (hv 2 (.inl rfl))) (by omega)
 simp only[Bool.or_eq_false_iff,Bool.not_eq_false',Bool.and_eq_false_iff,XL]at v;obtain⟨vi,vk⟩:=v;have pe:ab L g.pos=g.pos:=Qa vi;have hall:=dB vi;have hp:=nJ hall.1;refine⟨fun v3=>⟨fun b=>?_,fun b=>⟨⟨by unfold mX;omega,?_⟩,fun ro=>?_,fun ro=>?_⟩⟩,fun v3=>⟨fun b=>?_,fun b=>⟨?_,fun i hi=>⟨fun hlt=>?_,fun hge=>?_⟩⟩⟩⟩
 ·have v3:=XO v3;have b:=XO b;exact oY hI hE (JU d1 d2 (by rw[pe];exact v3) (by omega)) (by omega)
 ·have h1:=Int.tmod_lt_of_pos g.rts (show(0:Int)<4 by omega)
  have h2:=Int.lt_tmod_of_pos g.rts (show(0:Int)<4 by omega)
  simp only[aI,cg];omega
 ·have v3:=XO v3;have b:=XN b;have ro:g.rts.tmod 4≠0:=by simpa using ro
  have:=wa d1 d2 (by rw[pe];exact v3) (by omega)
  rw[pe]at this;unfold nw at this;rw[XQ ro]at this;exact E7 hI hE this
 ·have v3:=XO v3;have b:=XN b;have ro:g.rts.tmod 4=0:=by simpa using ro
  have:=wa d1 d2 (by rw[pe];exact v3) (by omega)
  rw[pe]at this;unfold nw at this;rw[XR ro]at this;exact E7 hI hE this
 ·have v3:=XN v3;have b:=XO b;exact oY hI hE (I4 d1 d2 (by rw[pe];omega) (by omega)) (by omega)
 ·refine⟨1,.inl rfl,?_⟩;have:=(Vk (r:=g.rts) (m:=g.pos.rights)).symm;repeat' apply And.intro
  all_goals first|rfl|exact this
 ·have hlt:=XO hlt;have hi3:i=1\/i=2\/i=4:=by unfold jL at hi;omega
  obtain⟨⟨o1,o2⟩,o3,o4⟩:=Vq r1 r2 hp.1 hp.2 hi3;have hne:mX i:=by unfold mX;omega
  have h2:mX 2:=by unfold mX;omega
  have hi4:i=1\/i=2\/i=4\/i=8:=hi;have hn:jL (i*2)/\(8-i*2).toNat<(8-i).toNat:=by unfold jL;omega
  have t1:aI IntKind.i64 (g.pos.rights.tdiv i):=tT (by simp only[cg];omega) hi4
  have t2:aI IntKind.i64 ((fi g.rts g.pos.rights i).tdiv i):=tT (by simp only[cg];omega) hi4
  refine⟨⟨hne,t1⟩,⟨h2,nQ _⟩,fun _=>⟨hne,t2⟩,fun _=>⟨h2,nQ _⟩,fun c=>⟨by simp only[aI,cg];omega,by simp only[aI,cg];omega,i*2,hn.1,hn.2,?_⟩,fun c=>⟨by simp only[aI,cg];omega,i*2,hn.1,hn.2,?_⟩⟩
  ·have:=o3 c;repeat' apply And.intro
   all_goals first|rfl|exact this
  ·have:=o4 c;repeat' apply And.intro
   all_goals first|rfl|exact this
 ·have hge:=XN hge;have hi8:i=8:=by unfold jL at hi;omega
  subst hi8;have v3:=XN v3;have b:=XN b;have v2:g.pos.kind=2:=by omega
  have v2':(ab L g.pos).kind=2:=by rw[pe];exact v2
  have hsl:=(rB hL vi v2 15 (by omega)).1
  have hO:0<=mB g.rts g.pos.rights/\mB g.rts g.pos.rights<=7:=(Te r1 r2 hp.1 hp.2).2;have hraw:=OM (L:=L) hsl (by have:=hall.2.1;have:=hall.2.2.1;omega)
  have eG:∀j,cN L (cL (ab L g.pos) 0) j=ab L ((ah L g.pos.oid.toNat free).slots.at j.toNat):=fun j=>by rw[pe];rfl
  have e15:cN L (cL (ab L g.pos) 0) 15=ab L ((ah L g.pos.oid.toNat free).slots.at 15):=eG 15;have e14:cN L (cL (ab L g.pos) 0) 14=ab L ((ah L g.pos.oid.toNat free).slots.at 14):=eG 14;generalize hS:(ah L g.pos.oid.toNat free).slots.at 15=S at *
  refine⟨⟨hall.2.1,hall.2.2.1⟩,by have:=hall.2.1;have:=hall.2.2.1;unfold aj;omega,fun f=>?_,fun f=>?_⟩
  ·refine oY hI hE (FW d1 d2 v2' (by omega) ?_) (by omega)
   rw[e15];rw[Bool.eq_false_iff,ne_eq,tD];rintro⟨f1,f2,f3,f4⟩
   have:ab L S=S:=hraw.1 (by by_cases hk:S.kind=1;exact hk;exact absurd f1 (hraw.2 hk))
   rw[this]at f1 f2 f3 f4;simp only[Bool.or_eq_true,Bool.not_eq_true',XL,decide_eq_false_iff_not]at f;rcases f4 with f4|f4
   ·have:=e1 f4;omega
   ·omega
  ·simp only[Bool.or_eq_false_iff,Bool.not_eq_false',XL,decide_eq_false_iff_not]at f;obtain⟨⟨⟨f1,f2⟩,f3⟩,f4⟩:=f;have eS:ab L S=S:=hraw.1 f1;rw[eS]at e15;have fh:o7 g (cN L (cL (ab L g.pos) 0) 15)=true:=by rw[e15,tD];exact⟨f1,by omega,by omega,.inr (by omega)⟩
   have he:=qs (show S.value<=9 by omega)
   have hd:=qG a1 he.1;have q1:jb S.value:=⟨by omega,by omega⟩
   have q2:mX (aY S.value):=by unfold mX;omega
   unfold cg at ha;have q3:aI IntKind.i64 (g.adr.tdiv (aY S.value)):=by simp only[aI,cg];omega
   have q4:aI IntKind.i64 (g.adr.tmod (aY S.value)):=by simp only[aI,cg];omega
   have q5:aI IntKind.i64 (g.dep+1):=by simp only[aI,cg];omega
   have kp:∀b,(decide ((ab L ((ah L g.pos.oid.toNat free).slots.at 14)).kind=6)&&decide (fi g.rts g.pos.rights 8<4))=b->uL (mB g.rts g.pos.rights) (ab L ((ah L g.pos.oid.toNat free).slots.at 14)) g.kpr=if b then ab L ((ah L g.pos.oid.toNat free).slots.at 14)else g.kpr:=by
    intro b hb;unfold uL mB;cases b
    ·simp only[Bool.and_eq_false_iff,decide_eq_false_iff_not]at hb;rw[XQ (by omega)];rfl
    ·simp only[XK,XL]at hb;rw[XR hb];rfl
   have gs:∀s:¬g.adr.tdiv (aY S.value)<14,hJ L (9-g.dep).toNat g=⟨2,void,0,uL (mB g.rts g.pos.rights) (ab L ((ah L g.pos.oid.toNat free).slots.at 14)) g.kpr,0⟩:=fun s=>by
    have:=Aa d1 d2 v2' (by omega) fh (by rw[e15];exact s)
    rw[e14,pe]at this;exact this
   have gn:∀s:g.adr.tdiv (aY S.value)<14,mN L k a 99 ⟨cN L g.pos (g.adr.tdiv (aY S.value)),g.adr.tmod (aY S.value),mB g.rts g.pos.rights,uL (mB g.rts g.pos.rights) (ab L ((ah L g.pos.oid.toNat free).slots.at 14)) g.kpr,g.dep+1,S.value⟩/\
     nU ⟨cN L g.pos (g.adr.tdiv (aY S.value)),g.adr.tmod (aY S.value),mB g.rts g.pos.rights,uL (mB g.rts g.pos.rights) (ab L ((ah L g.pos.oid.toNat free).slots.at 14)) g.kpr,g.dep+1,S.value⟩<nU g:=fun s=>by
    have:=KX hI v2' (by omega) fh (by rw[e15];exact s)
    unfold KS at this;rw[e15,e14,pe]at this;exact this
   refine⟨fun c=>⟨q1,⟨q2,q3⟩,fun s=>?_,fun s=>⟨q1,⟨q2,q4⟩,?_,q5,_,(gn ?_).1,(gn ?_).2,?_⟩⟩,fun c=>⟨q1,⟨q2,q3⟩,fun s=>?_,fun s=>⟨q1,⟨q2,q4⟩,?_,q5,_,(gn ?_).1,(gn ?_).2,?_⟩⟩⟩
   ·have s:=XO s;exact oY hI hE ((gs (by omega)).trans (by rw[kp _ c];rfl)) (by omega)
   ·have s:=XN s;exact⟨hd.1,by omega,hall.2.1,hall.2.2.1⟩
   ·have s:=XN s;omega
   ·have s:=XN s;omega
   ·have:=kp _ c;repeat' apply And.intro
    all_goals first|with_reducible rfl|exact this.symm|rfl
   ·have s:=XO s;exact oY hI hE ((gs (by omega)).trans (by rw[kp _ c];rfl)) (by omega)
   ·have s:=XN s;exact⟨hd.1,by omega,hall.2.1,hall.2.2.1⟩
   ·have s:=XN s;omega
   ·have s:=XN s;omega
   ·have:=kp _ c;repeat' apply And.intro
    all_goals first|with_reducible rfl|exact this.symm|rfl
theorem HE (L:List Sx.Obj) (k:Key) (a:Int) (ha:cg .i64 a) (hL:aq L):ai Tryz.prog 192 [.sa 0,.key k,.it .i64 a] [.ro (.arr none 163 (.ob L))] (nz (Da L k a)) (fun _ _=>False):=
 aW (inl:=bn) (ann:=(jC [(192,10,Xn [0,2,4,6,7,8,9,13] (fun g=> [(10,.it .i64 g.adr),(11,.it .i64 g.rts),(12,.it .i64 g.hi),(14,.it .i64 g.dep)]) (fun g=> [(4,.blk tK (.key g.pos)),(5,.blk tK (.key g.kpr))]) (mN L k a 99) nU),(192,27,WT [0,2,4,6,7,8,9,10,12,13,14,15] jL 8)])) (ae AW (ae lZ (ae pH (ae Kk (ae vO an))))) (JS L k a ha hL) (by kernel_rfl)
theorem LP:cj Tryz.prog 192 Oh:=
 eY (aJ jo (aJ gM (aJ fl cK))) (fun _=>rfl) fun a hq hok=>by
  obtain⟨L,k,i,_⟩:=a;exact HE L k i hok.2.2.1 hq
end Go.Proofs.YtghpaegglbbocaaGreat
