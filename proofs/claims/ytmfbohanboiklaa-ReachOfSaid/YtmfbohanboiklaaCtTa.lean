import Derived.Test.YtmfbohanboiklaaCN
import Derived.Test.YtmfbohanboiklaaSpHa
set_option linter.unusedSimpArgs false
set_option linter.unusedVariables false
namespace Go.Proofs.Ytmfbohanboiklaa
open Go.Sx
set_option maxRecDepth 100000
theorem FM (L:List Sx.Obj) (S:CS) (k:Sx.Key) (hS:kc S 1000000):
 true=true/\((!(decide (2<=k.kind)&&decide (k.kind<=10)))=true->True/\S.fst=(ki S k).fst/\S.snd=(ki S k).snd)/\((!(decide (2<=k.kind)&&decide (k.kind<=10)))=false->(br
  IntKind.i64 (aV S.fst [k.kind,k.oid,k.count,k.call,k.rights]+1)/\uk S.fst/\(0<=aZ (aT S.fst [k.kind,k.oid,k.count,k.call,k.rights])/\aZ (aT S.fst [k.kind,k.oid,k.count,
  k.call,k.rights])< ↑(ae (aN S.fst [k.kind,k.oid,k.count,k.call,k.rights])))/\(decide (aV (cj (aN S.fst [k.kind,k.oid,k.count,k.call,k.rights]) (aZ (aT S.fst [k.kind,k.oid,
  k.count,k.call,k.rights])).toNat (aV S.fst [k.kind,k.oid,k.count,k.call,k.rights]+1)) [k.kind,k.oid,k.count,k.call,k.rights]=1)=true->e9 (ae S.snd) 40/\True/\cj (aN
  S.fst [k.kind,k.oid,k.count,k.call,k.rights]) (aZ (aT S.fst [k.kind,k.oid,k.count,k.call,k.rights])).toNat (aV S.fst [k.kind,k.oid,k.count,k.call,k.rights]+1)=(ki S k).fst/\
  bj S.snd [k.kind,k.oid,k.count,k.call,k.rights]=(ki S k).snd)/\(decide (aV (cj (aN S.fst [k.kind,k.oid,k.count,k.call,k.rights]) (aZ (aT S.fst [k.kind,k.oid,k.count,
  k.call,k.rights])).toNat (aV S.fst [k.kind,k.oid,k.count,k.call,k.rights]+1)) [k.kind,k.oid,k.count,k.call,k.rights]=1)=false->True/\cj (aN S.fst [k.kind,k.oid,k.count,
  k.call,k.rights]) (aZ (aT S.fst [k.kind,k.oid,k.count,k.call,k.rights])).toNat (aV S.fst [k.kind,k.oid,k.count,k.call,k.rights]+1)=(ki S k).fst/\S.snd=(ki S k).snd))/\uk
  S.fst/\br IntKind.i64 (aV (aN S.fst [k.kind,k.oid,k.count,k.call,k.rights]) [k.kind,k.oid,k.count,k.call,k.rights]+1)/\(0<=aZ (aT S.fst [k.kind,k.oid,k.count,k.call,
  k.rights])/\aZ (aT S.fst [k.kind,k.oid,k.count,k.call,k.rights])< ↑(ae (aN S.fst [k.kind,k.oid,k.count,k.call,k.rights])))/\(decide (aV (cj (aN S.fst [k.kind,k.oid,
  k.count,k.call,k.rights]) (aZ (aT S.fst [k.kind,k.oid,k.count,k.call,k.rights])).toNat (aV (aN S.fst [k.kind,k.oid,k.count,k.call,k.rights]) [k.kind,k.oid,k.count,k.call,
  k.rights]+1)) [k.kind,k.oid,k.count,k.call,k.rights]=1)=true->e9 (ae S.snd) 40/\True/\cj (aN S.fst [k.kind,k.oid,k.count,k.call,k.rights]) (aZ (aT S.fst [k.kind,k.oid,
  k.count,k.call,k.rights])).toNat (aV (aN S.fst [k.kind,k.oid,k.count,k.call,k.rights]) [k.kind,k.oid,k.count,k.call,k.rights]+1)=(ki S k).fst/\bj S.snd [k.kind,k.oid,k.count,
  k.call,k.rights]=(ki S k).snd)/\(decide (aV (cj (aN S.fst [k.kind,k.oid,k.count,k.call,k.rights]) (aZ (aT S.fst [k.kind,k.oid,k.count,k.call,k.rights])).toNat (aV (aN
  S.fst [k.kind,k.oid,k.count,k.call,k.rights]) [k.kind,k.oid,k.count,k.call,k.rights]+1)) [k.kind,k.oid,k.count,k.call,k.rights]=1)=false->True/\cj (aN S.fst [k.kind,k.oid,
  k.count,k.call,k.rights]) (aZ (aT S.fst [k.kind,k.oid,k.count,k.call,k.rights])).toNat (aV (aN S.fst [k.kind,k.oid,k.count,k.call,k.rights]) [k.kind,k.oid,k.count,k.call,
  k.rights]+1)=(ki S k).fst/\S.snd=(ki S k).snd)):=by
 change true=true/\((!kh k)=true->True/\S.1=(ki S k).1/\S.2=(ki S k).2)/\((!kh k)=false->_)
 refine⟨rfl,fun h=>?_,fun h=>?_⟩
 ·have h:kh k=false:=by simpa using h
  unfold ki;rw[h];exact⟨trivial,rfl,rfl⟩
 have h:kh k=true:=by simpa using h
 have e:ki S k=(cj (aN S.1 (a8 k)) (aT S.1 (a8 k)) (aV S.1 (a8 k)+1),if cE S.1 (a8 k)=true then S.2 else bj S.2 (a8 k)):=by unfold ki;rw[MB h];rfl
 rw[e];obtain⟨h1,h2,h3,h4,h5⟩:=z7 (c:=a8 k) hS
 change (_/\_/\_/\(decide (aV (cj (aN S.1 (a8 k)) (aT S.1 (a8 k)) (aV S.1 (a8 k)+1)) (a8 k)=1)=true->_)/\(decide (aV (cj (aN S.1 (a8 k)) (aT S.1 (a8 k)) (aV S.1 (a8 k)+1)) (a8 k)=1)=false->_))/\
  uk _/\br _ (aV (aN S.1 (a8 k)) (a8 k)+1)/\_/\(decide (aV (cj (aN S.1 (a8 k)) (aT S.1 (a8 k)) (aV (aN S.1 (a8 k)) (a8 k)+1)) (a8 k)=1)=true->e9 _ 40/\True/\cj (aN S.1 (a8 k)) (aT S.1 (a8 k)) (aV (aN S.1 (a8 k)) (a8 k)+1)=_/\_=_)/\
  (decide (aV (cj (aN S.1 (a8 k)) (aT S.1 (a8 k)) (aV (aN S.1 (a8 k)) (a8 k)+1)) (a8 k)=1)=false->True/\cj (aN S.1 (a8 k)) (aT S.1 (a8 k)) (aV (aN S.1 (a8 k)) (a8 k)+1)=_/\_=_)
 rw[E2,Gx]
 have hy:decide (aV S.1 (a8 k)+1=1)=true->S.2++ [a8 k]=if cE S.1 (a8 k)=true then S.2 else bj S.2 (a8 k):=fun hd=>by
  rw[MA (h5.1 (My hd))];rfl
 have hn:decide (aV S.1 (a8 k)+1=1)=false->S.2=if cE S.1 (a8 k)=true then S.2 else bj S.2 (a8 k):=fun hd=>by
  rw[MB (Decidable.byContradiction fun hc=>Mx hd (h5.2 hc))]
 exact⟨⟨h1,h2,h3,fun hd=>⟨h4,trivial,rfl,hy hd⟩,fun hd=>⟨trivial,rfl,hn hd⟩⟩,h2,h1,h3,fun hd=>⟨h4,trivial,rfl,hy hd⟩,fun hd=>⟨trivial,rfl,hn hd⟩⟩
theorem u3:sF Try.prog 64 ID:=uu (bh yQ dJ) (fun _=>rfl) fun L S x hQ hok=>(ai.tv (k:=0) (res':=Ln S L) rfl (ai.pk (e:=vm) (aK (inl:=(fun f=>f==74)) (ann:=bV) az (FM L S x.1 hQ) (by kernel_rfl)) fun _ _ h=>Dj h))
theorem Bc (L:List Sx.Obj) (S:CS) (oid:Int) (w:Bool) (hS:kc S 900000):
 (∃g,bL g/\w=w/\(bR L oid).slots=(bR L oid).slots/\0=g/\S.fst=(fa L S oid w g).fst/\S.snd=(fa L S oid w g).snd/\L=L/\bR L oid=bR L oid)/\∀(g:Int),bL g
  ->(decide (g<16)=true->(0<=g/\g< ↑16)/\(w=true->true=true/\kc ((fa L S oid w g).fst,(fa L S oid w g).snd) 1000000/\br IntKind.i64 (g+1)/\∃g',bL g'/\(16-g').toNat<
  (16-g).toNat/\w=w/\(bR L oid).slots=(bR L oid).slots/\g+1=g'/\(ki ((fa L S oid w g).fst,(fa L S oid w g).snd) (cx (bd L ((bR L oid).slots.at g.toNat)))).fst=(fa
  L S oid w g').fst/\(ki ((fa L S oid w g).fst,(fa L S oid w g).snd) (cx (bd L ((bR L oid).slots.at g.toNat)))).snd=(fa L S oid w g').snd/\L=L/\bR L oid=bR L oid)/\(w=
  false->true=true/\kc ((fa L S oid w g).fst,(fa L S oid w g).snd) 1000000/\br IntKind.i64 (g+1)/\∃g',bL g'/\(16-g').toNat<(16-g).toNat/\w=w/\(bR L oid).slots=(bR
  L oid).slots/\g+1=g'/\(ki ((fa L S oid w g).fst,(fa L S oid w g).snd) (bd L ((bR L oid).slots.at g.toNat))).fst=(fa L S oid w g').fst/\(ki ((fa L S oid w g).fst,(fa L S oid w
  g).snd) (bd L ((bR L oid).slots.at g.toNat))).snd=(fa L S oid w g').snd/\L=L/\bR L oid=bR L oid))/\(decide (g<16)=false->True/\(fa L S oid w g).fst=(fa L S oid w
  16).fst/\(fa L S oid w g).snd=(fa L S oid w 16).snd):=by
 refine⟨⟨0,⟨by omega,by omega⟩,rfl,rfl,rfl,rfl,rfl,rfl,rfl⟩,fun g hg=>⟨fun hlt=>?_,fun hge=>?_⟩⟩
 ·have hlt:=My hlt;obtain⟨h0,h1⟩:=hg;have hb:kc (fa L S oid w g) 1000000:=cN (jZ (f:=ke L oid w) hS g.toNat) (by omega)
  have hs:fa L S oid w (g+1)=ki (fa L S oid w g) (ke L oid w g.toNat):=by
   unfold fa;rw[show(g+1).toNat=g.toNat+1 by omega];rfl
  have hm:br IntKind.i64 (g+1):=by simp only[br,bJ];omega
  have hi:bL (g+1):=⟨by omega,by omega⟩
  refine⟨⟨h0,hlt⟩,fun hw=>⟨rfl,hb,hm,g+1,hi,by omega,rfl,rfl,rfl,?_,?_,rfl,rfl⟩,fun hw=>⟨rfl,hb,hm,g+1,hi,by omega,rfl,rfl,rfl,?_,?_,rfl,rfl⟩⟩<;>(rw[hs];unfold ke;subst hw;rfl)
 ·have hge:=Mx hge;have:g=16:=by have:=hg.2;omega
  subst this;exact⟨trivial,rfl,rfl⟩
theorem oU:sF Try.prog 50 Ex:=uu (bh mA (bh JT dJ)) (fun _=>rfl) fun L S x hQ hok=>by
 obtain⟨oid,w,_⟩:=x;exact c8 (inl:=bx) (ann:=(kQ [(50,2,K4 [0,2,20] (fun g=> [(21,.it .i64 g)]) 0 (fun g=>pX 1 (fa L S oid w g)) bL 16)])) (an sr (an GD (an AQ az))) (b6 u3 de) (Bc L S oid w hQ) (by kernel_rfl)
theorem Eu (L:List Sx.Obj) (S:CS) (k:Sx.Key) (hS:kc S 800000) (h0:0<=k.rights) (h7:k.rights<=7):
 true=true/\kc (S.fst,S.snd) 900000/\(decide (k.rights=0)=true->true=true/\kc ((fa L (S.fst,S.snd) k.oid (!decide (cS BinOp.and IntKind.i64 k.rights 2=0)) 16).fst,(fa L (S.fst,
  S.snd) k.oid (!decide (cS BinOp.and IntKind.i64 k.rights 2=0)) 16).snd) 1000000/\True/\(ki ((fa L (S.fst,S.snd) k.oid (!decide (cS BinOp.and IntKind.i64 k.rights 2=0)) 16).fst,(fa L
  (S.fst,S.snd) k.oid (!decide (cS BinOp.and IntKind.i64 k.rights 2=0)) 16).snd) (Key.mk 5 k.oid k.count void.call void.rights void.value)).fst=(xq L S k).fst/\(ki ((fa L (S.fst,S.snd) k.oid
  (!decide (cS BinOp.and IntKind.i64 k.rights 2=0)) 16).fst,(fa L (S.fst,S.snd) k.oid (!decide (cS BinOp.and IntKind.i64 k.rights 2=0)) 16).snd) (Key.mk 5 k.oid k.count void.call void.rights
  void.value)).snd=(xq L S k).snd)/\(decide (k.rights=0)=false->True/\(fa L (S.fst,S.snd) k.oid (!decide (cS BinOp.and IntKind.i64 k.rights 2=0)) 16).fst=(xq L S k).fst/\(fa L
  (S.fst,S.snd) k.oid (!decide (cS BinOp.and IntKind.i64 k.rights 2=0)) 16).snd=(xq L S k).snd):=by
 have hb:(!decide (cS BinOp.and IntKind.i64 k.rights 2=0))=bE k:=by rw[K6 h0 h7];unfold bE;simp
 rw[hb];have h16:kc (fa L S k.oid (bE k) 16) 1000000:=cN (jZ (f:=ke L k.oid (bE k)) hS (16:Int).toNat) (by omega)
 refine⟨rfl,cN hS (by omega),fun h=>⟨rfl,h16,trivial,?_,?_⟩,fun h=>⟨trivial,?_,?_⟩⟩
 ·unfold xq;rw[MB (My h)];rfl
 ·unfold xq;rw[MB (My h)];rfl
 ·unfold xq;rw[MA (Mx h)]
 ·unfold xq;rw[MA (Mx h)]
theorem BB:sF Try.prog 48 EL:=uu (bh qv dJ) (fun _=>rfl) fun L S x hQ hok=>c8 (inl:=bx) (ann:=bV) az (b6 oU (b6 u3 de)) (Eu L S (uN x.1) hQ.1 hQ.2.1 hQ.2.2) (by kernel_rfl)
theorem Dw (L:List Sx.Obj) (S:CS) (k:Sx.Key) (hS:kc S 800000):
 true=true/\kc (S.fst,S.snd) 900000/\true=true/\kc ((fa L (S.fst,S.snd) k.oid false 16).fst,(fa L (S.fst,S.snd) k.oid false 16).snd) 1000000/\True/\(ki ((fa L (S.fst,S.snd) k.oid
  false 16).fst,(fa L (S.fst,S.snd) k.oid false 16).snd) (Key.mk 6 k.oid k.count void.call void.rights void.value)).fst=(EC L S k).fst/\(ki ((fa L (S.fst,S.snd) k.oid false 16).fst,(fa L
  (S.fst,S.snd) k.oid false 16).snd) (Key.mk 6 k.oid k.count void.call void.rights void.value)).snd=(EC L S k).snd:=by
 have h16:kc (fa L S k.oid false 16) 1000000:=cN (jZ (f:=ke L k.oid false) hS (16:Int).toNat) (by omega)
 exact⟨rfl,cN hS (by omega),rfl,h16,trivial,rfl,rfl⟩
theorem DG:sF Try.prog 49 GR:=uu (bh qv dJ) (fun _=>rfl) fun L S x hQ hok=>c8 (inl:=bx) (ann:=bV) az (b6 oU (b6 u3 de)) (Dw L S (uN x.1) hQ) (by kernel_rfl)
end Go.Proofs.Ytmfbohanboiklaa
