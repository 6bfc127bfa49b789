import Derived.Test.YtmfbohanboiklaaCN
import Derived.Test.YtmfbohanboiklaaSpHa
set_option linter.unusedSimpArgs false
set_option linter.unusedVariables false
namespace Go.Proofs.Ytmfbohanboiklaa
open Go.Sx
set_option maxRecDepth 100000
theorem F4 (L:List Sx.Obj) (S:CS) (k:Sx.Key) (hS:kp S 1000000):
 true=true/\((!(decide (2<=k.kind)&&decide (k.kind<=10)))=true->True/\S.fst=(kz S k).fst/\S.snd=(kz S k).snd)/\((!(decide (2<=k.kind)&&decide (k.kind<=10)))=false->(aP
  IntKind.i64 (aZ S.fst [k.kind,k.oid,k.count,k.call,k.rights]+1)/\tA S.fst/\(0<=aK (aV S.fst [k.kind,k.oid,k.count,k.call,k.rights])/\aK (aV S.fst [k.kind,k.oid,k.count,
  k.call,k.rights])< ↑(aa (aQ S.fst [k.kind,k.oid,k.count,k.call,k.rights])))/\(decide (aZ (cq (aQ S.fst [k.kind,k.oid,k.count,k.call,k.rights]) (aK (aV S.fst [k.kind,k.oid,
  k.count,k.call,k.rights])).toNat (aZ S.fst [k.kind,k.oid,k.count,k.call,k.rights]+1)) [k.kind,k.oid,k.count,k.call,k.rights]=1)=true->eh (aa S.snd) 40/\True/\cq (aQ
  S.fst [k.kind,k.oid,k.count,k.call,k.rights]) (aK (aV S.fst [k.kind,k.oid,k.count,k.call,k.rights])).toNat (aZ S.fst [k.kind,k.oid,k.count,k.call,k.rights]+1)=(kz S k).fst/\
  ba S.snd [k.kind,k.oid,k.count,k.call,k.rights]=(kz S k).snd)/\(decide (aZ (cq (aQ S.fst [k.kind,k.oid,k.count,k.call,k.rights]) (aK (aV S.fst [k.kind,k.oid,k.count,
  k.call,k.rights])).toNat (aZ S.fst [k.kind,k.oid,k.count,k.call,k.rights]+1)) [k.kind,k.oid,k.count,k.call,k.rights]=1)=false->True/\cq (aQ S.fst [k.kind,k.oid,k.count,
  k.call,k.rights]) (aK (aV S.fst [k.kind,k.oid,k.count,k.call,k.rights])).toNat (aZ S.fst [k.kind,k.oid,k.count,k.call,k.rights]+1)=(kz S k).fst/\S.snd=(kz S k).snd))/\tA
  S.fst/\aP IntKind.i64 (aZ (aQ S.fst [k.kind,k.oid,k.count,k.call,k.rights]) [k.kind,k.oid,k.count,k.call,k.rights]+1)/\(0<=aK (aV S.fst [k.kind,k.oid,k.count,k.call,
  k.rights])/\aK (aV S.fst [k.kind,k.oid,k.count,k.call,k.rights])< ↑(aa (aQ S.fst [k.kind,k.oid,k.count,k.call,k.rights])))/\(decide (aZ (cq (aQ S.fst [k.kind,k.oid,
  k.count,k.call,k.rights]) (aK (aV S.fst [k.kind,k.oid,k.count,k.call,k.rights])).toNat (aZ (aQ S.fst [k.kind,k.oid,k.count,k.call,k.rights]) [k.kind,k.oid,k.count,k.call,
  k.rights]+1)) [k.kind,k.oid,k.count,k.call,k.rights]=1)=true->eh (aa S.snd) 40/\True/\cq (aQ S.fst [k.kind,k.oid,k.count,k.call,k.rights]) (aK (aV S.fst [k.kind,k.oid,
  k.count,k.call,k.rights])).toNat (aZ (aQ S.fst [k.kind,k.oid,k.count,k.call,k.rights]) [k.kind,k.oid,k.count,k.call,k.rights]+1)=(kz S k).fst/\ba S.snd [k.kind,k.oid,k.count,
  k.call,k.rights]=(kz S k).snd)/\(decide (aZ (cq (aQ S.fst [k.kind,k.oid,k.count,k.call,k.rights]) (aK (aV S.fst [k.kind,k.oid,k.count,k.call,k.rights])).toNat (aZ (aQ
  S.fst [k.kind,k.oid,k.count,k.call,k.rights]) [k.kind,k.oid,k.count,k.call,k.rights]+1)) [k.kind,k.oid,k.count,k.call,k.rights]=1)=false->True/\cq (aQ S.fst [k.kind,k.oid,
  k.count,k.call,k.rights]) (aK (aV S.fst [k.kind,k.oid,k.count,k.call,k.rights])).toNat (aZ (aQ S.fst [k.kind,k.oid,k.count,k.call,k.rights]) [k.kind,k.oid,k.count,k.call,
  k.rights]+1)=(kz S k).fst/\S.snd=(kz S k).snd)):=by
 change true=true/\((!gJ k)=true->True/\S.1=(kz S k).1/\S.2=(kz S k).2)/\((!gJ k)=false->_)
 refine⟨rfl,fun h=>?_,fun h=>?_⟩
 ·have h:gJ k=false:=by simpa using h
  unfold kz;rw[h];exact⟨trivial,rfl,rfl⟩
 have h:gJ k=true:=by simpa using h
 have e:kz S k=(cq (aQ S.1 (bd k)) (aV S.1 (bd k)) (aZ S.1 (bd k)+1),if cI S.1 (bd k)=true then S.2 else ba S.2 (bd k)):=by unfold kz;rw[Ng h];rfl
 rw[e];obtain⟨h1,h2,h3,h4,h5⟩:=Bc (c:=bd k) hS
 change (_/\_/\_/\(decide (aZ (cq (aQ S.1 (bd k)) (aV S.1 (bd k)) (aZ S.1 (bd k)+1)) (bd k)=1)=true->_)/\(decide (aZ (cq (aQ S.1 (bd k)) (aV S.1 (bd k)) (aZ S.1 (bd k)+1)) (bd k)=1)=false->_))/\
  tA _/\aP _ (aZ (aQ S.1 (bd k)) (bd k)+1)/\_/\(decide (aZ (cq (aQ S.1 (bd k)) (aV S.1 (bd k)) (aZ (aQ S.1 (bd k)) (bd k)+1)) (bd k)=1)=true->eh _ 40/\True/\cq (aQ S.1 (bd k)) (aV S.1 (bd k)) (aZ (aQ S.1 (bd k)) (bd k)+1)=_/\_=_)/\
  (decide (aZ (cq (aQ S.1 (bd k)) (aV S.1 (bd k)) (aZ (aQ S.1 (bd k)) (bd k)+1)) (bd k)=1)=false->True/\cq (aQ S.1 (bd k)) (aV S.1 (bd k)) (aZ (aQ S.1 (bd k)) (bd k)+1)=_/\_=_)
 rw[FL,G6]
 have hy:decide (aZ S.1 (bd k)+1=1)=true->S.2++ [bd k]=if cI S.1 (bd k)=true then S.2 else ba S.2 (bd k):=fun hd=>by
  rw[Nf (h5.1 (Nc hd))];rfl
 have hn:decide (aZ S.1 (bd k)+1=1)=false->S.2=if cI S.1 (bd k)=true then S.2 else ba S.2 (bd k):=fun hd=>by
  rw[Ng (Decidable.byContradiction fun hc=>Nb hd (h5.2 hc))]
 exact⟨⟨h1,h2,h3,fun hd=>⟨h4,trivial,rfl,hy hd⟩,fun hd=>⟨trivial,rfl,hn hd⟩⟩,h2,h1,h3,fun hd=>⟨h4,trivial,rfl,hy hd⟩,fun hd=>⟨trivial,rfl,hn hd⟩⟩
theorem uW:sY Try.prog 64 IX:=uV (bj Aj dv) (fun _=>rfl) fun L S x hQ hok=>(ai.uI (k:=0) (res':=L7 S L) rfl (ai.pM (e:=u7) (aL (inl:=(fun f=>f==74)) (ann:=bY) az (F4 L S x.1 hQ) (by kernel_rfl)) fun _ _ h=>E6 h))
theorem BZ (L:List Sx.Obj) (S:CS) (oid:Int) (w:Bool) (hS:kp S 900000):
 (∃g,bK g/\w=w/\(bS L oid).slots=(bS L oid).slots/\0=g/\S.fst=(fi L S oid w g).fst/\S.snd=(fi L S oid w g).snd/\L=L/\bS L oid=bS L oid)/\∀(g:Int),bK g
  ->(decide (g<16)=true->(0<=g/\g< ↑16)/\(w=true->true=true/\kp ((fi L S oid w g).fst,(fi L S oid w g).snd) 1000000/\aP IntKind.i64 (g+1)/\∃g',bK g'/\(16-g').toNat<
  (16-g).toNat/\w=w/\(bS L oid).slots=(bS L oid).slots/\g+1=g'/\(kz ((fi L S oid w g).fst,(fi L S oid w g).snd) (cz (bc L ((bS L oid).slots.at g.toNat)))).fst=(fi
  L S oid w g').fst/\(kz ((fi L S oid w g).fst,(fi L S oid w g).snd) (cz (bc L ((bS L oid).slots.at g.toNat)))).snd=(fi L S oid w g').snd/\L=L/\bS L oid=bS L oid)/\(w=
  false->true=true/\kp ((fi L S oid w g).fst,(fi L S oid w g).snd) 1000000/\aP IntKind.i64 (g+1)/\∃g',bK g'/\(16-g').toNat<(16-g).toNat/\w=w/\(bS L oid).slots=(bS
  L oid).slots/\g+1=g'/\(kz ((fi L S oid w g).fst,(fi L S oid w g).snd) (bc L ((bS L oid).slots.at g.toNat))).fst=(fi L S oid w g').fst/\(kz ((fi L S oid w g).fst,(fi L S oid w
  g).snd) (bc L ((bS L oid).slots.at g.toNat))).snd=(fi L S oid w g').snd/\L=L/\bS L oid=bS L oid))/\(decide (g<16)=false->True/\(fi L S oid w g).fst=(fi L S oid w
  16).fst/\(fi L S oid w g).snd=(fi L S oid w 16).snd):=by
 refine⟨⟨0,⟨by omega,by omega⟩,rfl,rfl,rfl,rfl,rfl,rfl,rfl⟩,fun g hg=>⟨fun hlt=>?_,fun hge=>?_⟩⟩
 ·have hlt:=Nc hlt;obtain⟨h0,h1⟩:=hg;have hb:kp (fi L S oid w g) 1000000:=cX (kf (f:=jj L oid w) hS g.toNat) (by omega)
  have hs:fi L S oid w (g+1)=kz (fi L S oid w g) (jj L oid w g.toNat):=by
   unfold fi;rw[show(g+1).toNat=g.toNat+1 by omega];rfl
  have hm:aP IntKind.i64 (g+1):=by simp only[aP,bC];omega
  have hi:bK (g+1):=⟨by omega,by omega⟩
  refine⟨⟨h0,hlt⟩,fun hw=>⟨rfl,hb,hm,g+1,hi,by omega,rfl,rfl,rfl,?_,?_,rfl,rfl⟩,fun hw=>⟨rfl,hb,hm,g+1,hi,by omega,rfl,rfl,rfl,?_,?_,rfl,rfl⟩⟩<;>(rw[hs];unfold jj;subst hw;rfl)
 ·have hge:=Nb hge;have:g=16:=by have:=hg.2;omega
  subst this;exact⟨trivial,rfl,rfl⟩
theorem o0:sY Try.prog 50 EI:=uV (bj mJ (bj KV dv)) (fun _=>rfl) fun L S x hQ hok=>by
 obtain⟨oid,w,_⟩:=x;exact cK (inl:=bw) (ann:=(kg [(50,2,Lz [0,2,20] (fun g=> [(21,.it .i64 g)]) 0 (fun g=>qh 1 (fi L S oid w g)) bK 16)])) (an rW (an Fk (an AX az))) (bL uW cM) (BZ L S oid w hQ) (by kernel_rfl)
theorem ED (L:List Sx.Obj) (S:CS) (k:Sx.Key) (hS:kp S 800000) (h0:0<=k.rights) (h7:k.rights<=7):
 true=true/\kp (S.fst,S.snd) 900000/\(decide (k.rights=0)=true->true=true/\kp ((fi L (S.fst,S.snd) k.oid (!decide (b6 BinOp.and IntKind.i64 k.rights 2=0)) 16).fst,(fi L (S.fst,
  S.snd) k.oid (!decide (b6 BinOp.and IntKind.i64 k.rights 2=0)) 16).snd) 1000000/\True/\(kz ((fi L (S.fst,S.snd) k.oid (!decide (b6 BinOp.and IntKind.i64 k.rights 2=0)) 16).fst,(fi L
  (S.fst,S.snd) k.oid (!decide (b6 BinOp.and IntKind.i64 k.rights 2=0)) 16).snd) (Key.mk 5 k.oid k.count void.call void.rights void.value)).fst=(xY L S k).fst/\(kz ((fi L (S.fst,S.snd) k.oid
  (!decide (b6 BinOp.and IntKind.i64 k.rights 2=0)) 16).fst,(fi L (S.fst,S.snd) k.oid (!decide (b6 BinOp.and IntKind.i64 k.rights 2=0)) 16).snd) (Key.mk 5 k.oid k.count void.call void.rights
  void.value)).snd=(xY L S k).snd)/\(decide (k.rights=0)=false->True/\(fi L (S.fst,S.snd) k.oid (!decide (b6 BinOp.and IntKind.i64 k.rights 2=0)) 16).fst=(xY L S k).fst/\(fi L
  (S.fst,S.snd) k.oid (!decide (b6 BinOp.and IntKind.i64 k.rights 2=0)) 16).snd=(xY L S k).snd):=by
 have hb:(!decide (b6 BinOp.and IntKind.i64 k.rights 2=0))=bq k:=by rw[LV h0 h7];unfold bq;simp
 rw[hb];have h16:kp (fi L S k.oid (bq k) 16) 1000000:=cX (kf (f:=jj L k.oid (bq k)) hS (16:Int).toNat) (by omega)
 refine⟨rfl,cX hS (by omega),fun h=>⟨rfl,h16,trivial,?_,?_⟩,fun h=>⟨trivial,?_,?_⟩⟩
 ·unfold xY;rw[Ng (Nc h)];rfl
 ·unfold xY;rw[Ng (Nc h)];rfl
 ·unfold xY;rw[Nf (Nb h)]
 ·unfold xY;rw[Nf (Nb h)]
theorem Dy:sY Try.prog 48 Gq:=uV (bj qp dv) (fun _=>rfl) fun L S x hQ hok=>cK (inl:=bw) (ann:=bY) az (bL o0 (bL uW cM)) (ED L S (vj x.1) hQ.1 hQ.2.1 hQ.2.2) (by kernel_rfl)
theorem EZ (L:List Sx.Obj) (S:CS) (k:Sx.Key) (hS:kp S 800000):
 true=true/\kp (S.fst,S.snd) 900000/\true=true/\kp ((fi L (S.fst,S.snd) k.oid false 16).fst,(fi L (S.fst,S.snd) k.oid false 16).snd) 1000000/\True/\(kz ((fi L (S.fst,S.snd) k.oid
  false 16).fst,(fi L (S.fst,S.snd) k.oid false 16).snd) (Key.mk 6 k.oid k.count void.call void.rights void.value)).fst=(Fc L S k).fst/\(kz ((fi L (S.fst,S.snd) k.oid false 16).fst,(fi L
  (S.fst,S.snd) k.oid false 16).snd) (Key.mk 6 k.oid k.count void.call void.rights void.value)).snd=(Fc L S k).snd:=by
 have h16:kp (fi L S k.oid false 16) 1000000:=cX (kf (f:=jj L k.oid false) hS (16:Int).toNat) (by omega)
 exact⟨rfl,cX hS (by omega),rfl,h16,trivial,rfl,rfl⟩
theorem DS:sY Try.prog 49 GW:=uV (bj qp dv) (fun _=>rfl) fun L S x hQ hok=>cK (inl:=bw) (ann:=bY) az (bL o0 (bL uW cM)) (EZ L S (vj x.1) hQ) (by kernel_rfl)
end Go.Proofs.Ytmfbohanboiklaa
