import Derived.Test.YtmfbohanboiklaaCN
import Derived.Test.YtmfbohanboiklaaSpHa
set_option linter.unusedSimpArgs false
set_option linter.unusedVariables false
namespace Go.Proofs.Ytmfbohanboiklaa
open Go.Sx
set_option maxRecDepth 100000
theorem GF (L:List Sx.Obj) (S:CS) (k:Sx.Key) (hS:kG S 1000000):
 true=true/\((!(decide (2<=k.kind)&&decide (k.kind<=10)))=true->True/\S.fst=(kK S k).fst/\S.snd=(kK S k).snd)/\((!(decide (2<=k.kind)&&decide (k.kind<=10)))=false->(aO
  IntKind.i64 (bf S.fst [k.kind,k.oid,k.count,k.call,k.rights]+1)/\uS S.fst/\(0<=aJ (aY S.fst [k.kind,k.oid,k.count,k.call,k.rights])/\aJ (aY S.fst [k.kind,k.oid,k.count,
  k.call,k.rights])< ↑(aa (aR S.fst [k.kind,k.oid,k.count,k.call,k.rights])))/\(decide (bf (cz (aR S.fst [k.kind,k.oid,k.count,k.call,k.rights]) (aJ (aY S.fst [k.kind,k.oid,
  k.count,k.call,k.rights])).toNat (bf S.fst [k.kind,k.oid,k.count,k.call,k.rights]+1)) [k.kind,k.oid,k.count,k.call,k.rights]=1)=true->ep (aa S.snd) 40/\True/\cz (aR
  S.fst [k.kind,k.oid,k.count,k.call,k.rights]) (aJ (aY S.fst [k.kind,k.oid,k.count,k.call,k.rights])).toNat (bf S.fst [k.kind,k.oid,k.count,k.call,k.rights]+1)=(kK S k).fst/\
  bg S.snd [k.kind,k.oid,k.count,k.call,k.rights]=(kK S k).snd)/\(decide (bf (cz (aR S.fst [k.kind,k.oid,k.count,k.call,k.rights]) (aJ (aY S.fst [k.kind,k.oid,k.count,
  k.call,k.rights])).toNat (bf S.fst [k.kind,k.oid,k.count,k.call,k.rights]+1)) [k.kind,k.oid,k.count,k.call,k.rights]=1)=false->True/\cz (aR S.fst [k.kind,k.oid,k.count,
  k.call,k.rights]) (aJ (aY S.fst [k.kind,k.oid,k.count,k.call,k.rights])).toNat (bf S.fst [k.kind,k.oid,k.count,k.call,k.rights]+1)=(kK S k).fst/\S.snd=(kK S k).snd))/\uS
  S.fst/\aO IntKind.i64 (bf (aR S.fst [k.kind,k.oid,k.count,k.call,k.rights]) [k.kind,k.oid,k.count,k.call,k.rights]+1)/\(0<=aJ (aY S.fst [k.kind,k.oid,k.count,k.call,
  k.rights])/\aJ (aY S.fst [k.kind,k.oid,k.count,k.call,k.rights])< ↑(aa (aR S.fst [k.kind,k.oid,k.count,k.call,k.rights])))/\(decide (bf (cz (aR S.fst [k.kind,k.oid,
  k.count,k.call,k.rights]) (aJ (aY S.fst [k.kind,k.oid,k.count,k.call,k.rights])).toNat (bf (aR S.fst [k.kind,k.oid,k.count,k.call,k.rights]) [k.kind,k.oid,k.count,k.call,
  k.rights]+1)) [k.kind,k.oid,k.count,k.call,k.rights]=1)=true->ep (aa S.snd) 40/\True/\cz (aR S.fst [k.kind,k.oid,k.count,k.call,k.rights]) (aJ (aY S.fst [k.kind,k.oid,
  k.count,k.call,k.rights])).toNat (bf (aR S.fst [k.kind,k.oid,k.count,k.call,k.rights]) [k.kind,k.oid,k.count,k.call,k.rights]+1)=(kK S k).fst/\bg S.snd [k.kind,k.oid,k.count,
  k.call,k.rights]=(kK S k).snd)/\(decide (bf (cz (aR S.fst [k.kind,k.oid,k.count,k.call,k.rights]) (aJ (aY S.fst [k.kind,k.oid,k.count,k.call,k.rights])).toNat (bf (aR
  S.fst [k.kind,k.oid,k.count,k.call,k.rights]) [k.kind,k.oid,k.count,k.call,k.rights]+1)) [k.kind,k.oid,k.count,k.call,k.rights]=1)=false->True/\cz (aR S.fst [k.kind,k.oid,
  k.count,k.call,k.rights]) (aJ (aY S.fst [k.kind,k.oid,k.count,k.call,k.rights])).toNat (bf (aR S.fst [k.kind,k.oid,k.count,k.call,k.rights]) [k.kind,k.oid,k.count,k.call,
  k.rights]+1)=(kK S k).fst/\S.snd=(kK S k).snd)):=by
 change true=true/\((!gq k)=true->True/\S.1=(kK S k).1/\S.2=(kK S k).2)/\((!gq k)=false->_)
 refine⟨rfl,fun h=>?_,fun h=>?_⟩
 ·have h:gq k=false:=by simpa using h
  unfold kK;rw[h];exact⟨trivial,rfl,rfl⟩
 have h:gq k=true:=by simpa using h
 have e:kK S k=(cz (aR S.1 (bc k)) (aY S.1 (bc k)) (bf S.1 (bc k)+1),if cQ S.1 (bc k)=true then S.2 else bg S.2 (bc k)):=by unfold kK;rw[NX h];rfl
 rw[e];obtain⟨h1,h2,h3,h4,h5⟩:=B2 (c:=bc k) hS
 change (_/\_/\_/\(decide (bf (cz (aR S.1 (bc k)) (aY S.1 (bc k)) (bf S.1 (bc k)+1)) (bc k)=1)=true->_)/\(decide (bf (cz (aR S.1 (bc k)) (aY S.1 (bc k)) (bf S.1 (bc k)+1)) (bc k)=1)=false->_))/\
  uS _/\aO _ (bf (aR S.1 (bc k)) (bc k)+1)/\_/\(decide (bf (cz (aR S.1 (bc k)) (aY S.1 (bc k)) (bf (aR S.1 (bc k)) (bc k)+1)) (bc k)=1)=true->ep _ 40/\True/\cz (aR S.1 (bc k)) (aY S.1 (bc k)) (bf (aR S.1 (bc k)) (bc k)+1)=_/\_=_)/\
  (decide (bf (cz (aR S.1 (bc k)) (aY S.1 (bc k)) (bf (aR S.1 (bc k)) (bc k)+1)) (bc k)=1)=false->True/\cz (aR S.1 (bc k)) (aY S.1 (bc k)) (bf (aR S.1 (bc k)) (bc k)+1)=_/\_=_)
 rw[Hw,Gv]
 have hy:decide (bf S.1 (bc k)+1=1)=true->S.2++ [bc k]=if cQ S.1 (bc k)=true then S.2 else bg S.2 (bc k):=fun hd=>by
  rw[NW (h5.1 (NU hd))];rfl
 have hn:decide (bf S.1 (bc k)+1=1)=false->S.2=if cQ S.1 (bc k)=true then S.2 else bg S.2 (bc k):=fun hd=>by
  rw[NX (Decidable.byContradiction fun hc=>NT hd (h5.2 hc))]
 exact⟨⟨h1,h2,h3,fun hd=>⟨h4,trivial,rfl,hy hd⟩,fun hd=>⟨trivial,rfl,hn hd⟩⟩,h2,h1,h3,fun hd=>⟨h4,trivial,rfl,hy hd⟩,fun hd=>⟨trivial,rfl,hn hd⟩⟩
theorem vl:tr Try.prog 64 Jc:=vp (a8 Ac dn) (fun _=>rfl) fun L S x hQ hok=>(ai.tP (k:=0) (res':=Mw S L) rfl (ai.ql (e:=vq) (aM (inl:=(fun f=>f==74)) (ann:=bZ) aA (GF L S x.1 hQ) (by kernel_rfl)) fun _ _ h=>C4 h))
theorem B4 (L:List Sx.Obj) (S:CS) (oid:Int) (w:Bool) (hS:kG S 900000):
 (∃g,bR g/\w=w/\(bS L oid).slots=(bS L oid).slots/\0=g/\S.fst=(fo L S oid w g).fst/\S.snd=(fo L S oid w g).snd/\L=L/\bS L oid=bS L oid)/\∀(g:Int),bR g
  ->(decide (g<16)=true->(0<=g/\g< ↑16)/\(w=true->true=true/\kG ((fo L S oid w g).fst,(fo L S oid w g).snd) 1000000/\aO IntKind.i64 (g+1)/\∃g',bR g'/\(16-g').toNat<
  (16-g).toNat/\w=w/\(bS L oid).slots=(bS L oid).slots/\g+1=g'/\(kK ((fo L S oid w g).fst,(fo L S oid w g).snd) (cD (aT L ((bS L oid).slots.at g.toNat)))).fst=(fo
  L S oid w g').fst/\(kK ((fo L S oid w g).fst,(fo L S oid w g).snd) (cD (aT L ((bS L oid).slots.at g.toNat)))).snd=(fo L S oid w g').snd/\L=L/\bS L oid=bS L oid)/\(w=
  false->true=true/\kG ((fo L S oid w g).fst,(fo L S oid w g).snd) 1000000/\aO IntKind.i64 (g+1)/\∃g',bR g'/\(16-g').toNat<(16-g).toNat/\w=w/\(bS L oid).slots=(bS
  L oid).slots/\g+1=g'/\(kK ((fo L S oid w g).fst,(fo L S oid w g).snd) (aT L ((bS L oid).slots.at g.toNat))).fst=(fo L S oid w g').fst/\(kK ((fo L S oid w g).fst,(fo L S oid w
  g).snd) (aT L ((bS L oid).slots.at g.toNat))).snd=(fo L S oid w g').snd/\L=L/\bS L oid=bS L oid))/\(decide (g<16)=false->True/\(fo L S oid w g).fst=(fo L S oid w
  16).fst/\(fo L S oid w g).snd=(fo L S oid w 16).snd):=by
 refine⟨⟨0,⟨by omega,by omega⟩,rfl,rfl,rfl,rfl,rfl,rfl,rfl⟩,fun g hg=>⟨fun hlt=>?_,fun hge=>?_⟩⟩
 ·have hlt:=NU hlt;obtain⟨h0,h1⟩:=hg;have hb:kG (fo L S oid w g) 1000000:=c8 (kb (f:=iH L oid w) hS g.toNat) (by omega)
  have hs:fo L S oid w (g+1)=kK (fo L S oid w g) (iH L oid w g.toNat):=by
   unfold fo;rw[show(g+1).toNat=g.toNat+1 by omega];rfl
  have hm:aO IntKind.i64 (g+1):=by simp only[aO,bE];omega
  have hi:bR (g+1):=⟨by omega,by omega⟩
  refine⟨⟨h0,hlt⟩,fun hw=>⟨rfl,hb,hm,g+1,hi,by omega,rfl,rfl,rfl,?_,?_,rfl,rfl⟩,fun hw=>⟨rfl,hb,hm,g+1,hi,by omega,rfl,rfl,rfl,?_,?_,rfl,rfl⟩⟩<;>(rw[hs];unfold iH;subst hw;rfl)
 ·have hge:=NT hge;have:g=16:=by have:=hg.2;omega
  subst this;exact⟨trivial,rfl,rfl⟩
theorem pz:tr Try.prog 50 DD:=vp (a8 mX (a8 LF dn)) (fun _=>rfl) fun L S x hQ hok=>by
 obtain⟨oid,w,_⟩:=x;exact cE (inl:=bu) (ann:=(jb [(50,2,Mh [0,2,20] (fun g=> [(21,.it .i64 g)]) 0 (fun g=>qG 1 (fo L S oid w g)) bR 16)])) (ak sb (ak Gf (ak Bh aA))) (bz vl cH) (B4 L S oid w hQ) (by kernel_rfl)
theorem CX (L:List Sx.Obj) (S:CS) (k:Sx.Key) (hS:kG S 800000) (h0:0<=k.rights) (h7:k.rights<=7):
 true=true/\kG (S.fst,S.snd) 900000/\(decide (k.rights=0)=true->true=true/\kG ((fo L (S.fst,S.snd) k.oid (!decide (b7 BinOp.and IntKind.i64 k.rights 2=0)) 16).fst,(fo L (S.fst,
  S.snd) k.oid (!decide (b7 BinOp.and IntKind.i64 k.rights 2=0)) 16).snd) 1000000/\True/\(kK ((fo L (S.fst,S.snd) k.oid (!decide (b7 BinOp.and IntKind.i64 k.rights 2=0)) 16).fst,(fo L
  (S.fst,S.snd) k.oid (!decide (b7 BinOp.and IntKind.i64 k.rights 2=0)) 16).snd) (Key.mk 5 k.oid k.count void.call void.rights void.value)).fst=(yn L S k).fst/\(kK ((fo L (S.fst,S.snd) k.oid
  (!decide (b7 BinOp.and IntKind.i64 k.rights 2=0)) 16).fst,(fo L (S.fst,S.snd) k.oid (!decide (b7 BinOp.and IntKind.i64 k.rights 2=0)) 16).snd) (Key.mk 5 k.oid k.count void.call void.rights
  void.value)).snd=(yn L S k).snd)/\(decide (k.rights=0)=false->True/\(fo L (S.fst,S.snd) k.oid (!decide (b7 BinOp.and IntKind.i64 k.rights 2=0)) 16).fst=(yn L S k).fst/\(fo L
  (S.fst,S.snd) k.oid (!decide (b7 BinOp.and IntKind.i64 k.rights 2=0)) 16).snd=(yn L S k).snd):=by
 have hb:(!decide (b7 BinOp.and IntKind.i64 k.rights 2=0))=br k:=by rw[MX h0 h7];unfold br;simp
 rw[hb];have h16:kG (fo L S k.oid (br k) 16) 1000000:=c8 (kb (f:=iH L k.oid (br k)) hS (16:Int).toNat) (by omega)
 refine⟨rfl,c8 hS (by omega),fun h=>⟨rfl,h16,trivial,?_,?_⟩,fun h=>⟨trivial,?_,?_⟩⟩
 ·unfold yn;rw[NX (NU h)];rfl
 ·unfold yn;rw[NX (NU h)];rfl
 ·unfold yn;rw[NW (NT h)]
 ·unfold yn;rw[NW (NT h)]
theorem Dj:tr Try.prog 48 HJ:=vp (a8 oz dn) (fun _=>rfl) fun L S x hQ hok=>cE (inl:=bu) (ann:=bZ) aA (bz pz (bz vl cH)) (CX L S (rX x.1) hQ.1 hQ.2.1 hQ.2.2) (by kernel_rfl)
theorem D9 (L:List Sx.Obj) (S:CS) (k:Sx.Key) (hS:kG S 800000):
 true=true/\kG (S.fst,S.snd) 900000/\true=true/\kG ((fo L (S.fst,S.snd) k.oid false 16).fst,(fo L (S.fst,S.snd) k.oid false 16).snd) 1000000/\True/\(kK ((fo L (S.fst,S.snd) k.oid
  false 16).fst,(fo L (S.fst,S.snd) k.oid false 16).snd) (Key.mk 6 k.oid k.count void.call void.rights void.value)).fst=(FI L S k).fst/\(kK ((fo L (S.fst,S.snd) k.oid false 16).fst,(fo L
  (S.fst,S.snd) k.oid false 16).snd) (Key.mk 6 k.oid k.count void.call void.rights void.value)).snd=(FI L S k).snd:=by
 have h16:kG (fo L S k.oid false 16) 1000000:=c8 (kb (f:=iH L k.oid false) hS (16:Int).toNat) (by omega)
 exact⟨rfl,c8 hS (by omega),rfl,h16,trivial,rfl,rfl⟩
theorem CT:tr Try.prog 49 Gp:=vp (a8 oz dn) (fun _=>rfl) fun L S x hQ hok=>cE (inl:=bu) (ann:=bZ) aA (bz pz (bz vl cH)) (D9 L S (rX x.1) hQ) (by kernel_rfl)
end Go.Proofs.Ytmfbohanboiklaa
