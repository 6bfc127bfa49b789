import Derived.Test.YtmfbohanboiklaaGreatDoorCN
import Derived.Test.YtmfbohanboiklaaGreatDoorSpHa
set_option linter.unusedSimpArgs false
set_option linter.unusedVariables false
namespace Go.Proofs.YtmfbohanboiklaaGreatDoor
open Go.Sx
set_option maxRecDepth 100000
theorem E8(L:List Sx.Obj)(S:CS)(k:Sx.Key)(hS:kc S 1000000):
 true=true/\((!(decide (2<=k.kind)&&decide (k.kind<=10)))=true->True/\S.fst=(kq S k).fst/\S.snd=(kq S k).snd)/\((!(decide (2<=k.kind)&&decide (k.kind<=10)))=false->(dI
  IntKind.i64 (bx S.fst [k.kind,k.oid,k.count,k.call,k.rights]+1)/\sT S.fst/\(0<=cW (bu S.fst [k.kind,k.oid,k.count,k.call,k.rights])/\cW (bu S.fst [k.kind,k.oid,k.count,
  k.call,k.rights])< ↑(aN (bn S.fst [k.kind,k.oid,k.count,k.call,k.rights])))/\(decide (bx (cD (bn S.fst [k.kind,k.oid,k.count,k.call,k.rights]) (cW (bu S.fst [k.kind,k.oid,
  k.count,k.call,k.rights])).toNat (bx S.fst [k.kind,k.oid,k.count,k.call,k.rights]+1)) [k.kind,k.oid,k.count,k.call,k.rights]=1)=true->cV (aN S.snd) 40/\True/\cD (bn
  S.fst [k.kind,k.oid,k.count,k.call,k.rights]) (cW (bu S.fst [k.kind,k.oid,k.count,k.call,k.rights])).toNat (bx S.fst [k.kind,k.oid,k.count,k.call,k.rights]+1)=(kq S k).fst/\
  bN S.snd [k.kind,k.oid,k.count,k.call,k.rights]=(kq S k).snd)/\(decide (bx (cD (bn S.fst [k.kind,k.oid,k.count,k.call,k.rights]) (cW (bu S.fst [k.kind,k.oid,k.count,
  k.call,k.rights])).toNat (bx S.fst [k.kind,k.oid,k.count,k.call,k.rights]+1)) [k.kind,k.oid,k.count,k.call,k.rights]=1)=false->True/\cD (bn S.fst [k.kind,k.oid,k.count,
  k.call,k.rights]) (cW (bu S.fst [k.kind,k.oid,k.count,k.call,k.rights])).toNat (bx S.fst [k.kind,k.oid,k.count,k.call,k.rights]+1)=(kq S k).fst/\S.snd=(kq S k).snd))/\sT
  S.fst/\dI IntKind.i64 (bx (bn S.fst [k.kind,k.oid,k.count,k.call,k.rights]) [k.kind,k.oid,k.count,k.call,k.rights]+1)/\(0<=cW (bu S.fst [k.kind,k.oid,k.count,k.call,
  k.rights])/\cW (bu S.fst [k.kind,k.oid,k.count,k.call,k.rights])< ↑(aN (bn S.fst [k.kind,k.oid,k.count,k.call,k.rights])))/\(decide (bx (cD (bn S.fst [k.kind,k.oid,
  k.count,k.call,k.rights]) (cW (bu S.fst [k.kind,k.oid,k.count,k.call,k.rights])).toNat (bx (bn S.fst [k.kind,k.oid,k.count,k.call,k.rights]) [k.kind,k.oid,k.count,k.call,
  k.rights]+1)) [k.kind,k.oid,k.count,k.call,k.rights]=1)=true->cV (aN S.snd) 40/\True/\cD (bn S.fst [k.kind,k.oid,k.count,k.call,k.rights]) (cW (bu S.fst [k.kind,k.oid,
  k.count,k.call,k.rights])).toNat (bx (bn S.fst [k.kind,k.oid,k.count,k.call,k.rights]) [k.kind,k.oid,k.count,k.call,k.rights]+1)=(kq S k).fst/\bN S.snd [k.kind,k.oid,k.count,
  k.call,k.rights]=(kq S k).snd)/\(decide (bx (cD (bn S.fst [k.kind,k.oid,k.count,k.call,k.rights]) (cW (bu S.fst [k.kind,k.oid,k.count,k.call,k.rights])).toNat (bx (bn
  S.fst [k.kind,k.oid,k.count,k.call,k.rights]) [k.kind,k.oid,k.count,k.call,k.rights]+1)) [k.kind,k.oid,k.count,k.call,k.rights]=1)=false->True/\cD (bn S.fst [k.kind,k.oid,
  k.count,k.call,k.rights]) (cW (bu S.fst [k.kind,k.oid,k.count,k.call,k.rights])).toNat (bx (bn S.fst [k.kind,k.oid,k.count,k.call,k.rights]) [k.kind,k.oid,k.count,k.call,
  k.rights]+1)=(kq S k).fst/\S.snd=(kq S k).snd)):=by
 change true=true/\((!mn k)=true->True/\S.1=(kq S k).1/\S.2=(kq S k).2)/\((!mn k)=false->_)
 refine⟨rfl,fun h=>?_,fun h=>?_⟩
 ·have h:mn k=false:=by simpa using h
  unfold kq;rw[h];exact⟨trivial,rfl,rfl⟩
 have h:mn k=true:=by simpa using h
 have e:kq S k=(cD (bn S.1 (b6 k)) (bu S.1 (b6 k)) (bx S.1 (b6 k)+1),if cU S.1 (b6 k)=true then S.2 else bN S.2 (b6 k)):=by unfold kq;rw[au h];rfl
 rw[e];obtain⟨h1,h2,h3,h4,h5⟩:=Ar (c:=b6 k) hS
 change (_/\_/\_/\(decide (bx (cD (bn S.1 (b6 k)) (bu S.1 (b6 k)) (bx S.1 (b6 k)+1)) (b6 k)=1)=true->_)/\(decide (bx (cD (bn S.1 (b6 k)) (bu S.1 (b6 k)) (bx S.1 (b6 k)+1)) (b6 k)=1)=false->_))/\
  sT _/\dI _ (bx (bn S.1 (b6 k)) (b6 k)+1)/\_/\(decide (bx (cD (bn S.1 (b6 k)) (bu S.1 (b6 k)) (bx (bn S.1 (b6 k)) (b6 k)+1)) (b6 k)=1)=true->cV _ 40/\True/\cD (bn S.1 (b6 k)) (bu S.1 (b6 k)) (bx (bn S.1 (b6 k)) (b6 k)+1)=_/\_=_)/\
  (decide (bx (cD (bn S.1 (b6 k)) (bu S.1 (b6 k)) (bx (bn S.1 (b6 k)) (b6 k)+1)) (b6 k)=1)=false->True/\cD (bn S.1 (b6 k)) (bu S.1 (b6 k)) (bx (bn S.1 (b6 k)) (b6 k)+1)=_/\_=_)
 rw[EU,FP]
 have hy:decide (bx S.1 (b6 k)+1=1)=true->S.2++ [b6 k]=if cU S.1 (b6 k)=true then S.2 else bN S.2 (b6 k):=fun hd=>by
  rw[ar (h5.1 (an hd))];rfl
 have hn:decide (bx S.1 (b6 k)+1=1)=false->S.2=if cU S.1 (b6 k)=true then S.2 else bN S.2 (b6 k):=fun hd=>by
  rw[au (Decidable.byContradiction fun hc=>ak hd (h5.2 hc))]
 exact⟨⟨h1,h2,h3,fun hd=>⟨h4,trivial,rfl,hy hd⟩,fun hd=>⟨trivial,rfl,hn hd⟩⟩,h2,h1,h3,fun hd=>⟨h4,trivial,rfl,hy hd⟩,fun hd=>⟨trivial,rfl,hn hd⟩⟩
theorem uU[Fen]:p7 Tryz.prog 56 Iq:=vh (bL CQ ea) (fun _=>rfl) fun L S x hQ hok=>(aJ.tg (k:=0) (res':=LG S L) rfl (aJ.pV (e:=sL) (bG (inl:=(fun f=>f==14)) (ann:=cH) bf (E8 L S x.1 hQ) (by kernel_rfl)) fun _ _ h=>CN h))
theorem Am(L:List Sx.Obj)(S:CS)(oid:Int)(w:Bool)(hS:kc S 900000):
 (∃g,lR g/\w=w/\(cB L oid).slots=(cB L oid).slots/\0=g/\S.fst=(ft L S oid w g).fst/\S.snd=(ft L S oid w g).snd/\L=L/\cB L oid=cB L oid)/\∀(g:Int),lR g
  ->(decide (g<16)=true->(0<=g/\g< ↑16)/\(w=true->true=true/\kc ((ft L S oid w g).fst,(ft L S oid w g).snd) 1000000/\dI IntKind.i64 (g+1)/\∃g',lR g'/\(16-g').toNat<
  (16-g).toNat/\w=w/\(cB L oid).slots=(cB L oid).slots/\g+1=g'/\(kq ((ft L S oid w g).fst,(ft L S oid w g).snd) (dA (dE L ((cB L oid).slots.at g.toNat)))).fst=(ft
  L S oid w g').fst/\(kq ((ft L S oid w g).fst,(ft L S oid w g).snd) (dA (dE L ((cB L oid).slots.at g.toNat)))).snd=(ft L S oid w g').snd/\L=L/\cB L oid=cB L oid)/\(w=
  false->true=true/\kc ((ft L S oid w g).fst,(ft L S oid w g).snd) 1000000/\dI IntKind.i64 (g+1)/\∃g',lR g'/\(16-g').toNat<(16-g).toNat/\w=w/\(cB L oid).slots=(cB
  L oid).slots/\g+1=g'/\(kq ((ft L S oid w g).fst,(ft L S oid w g).snd) (dE L ((cB L oid).slots.at g.toNat))).fst=(ft L S oid w g').fst/\(kq ((ft L S oid w g).fst,(ft L S oid w
  g).snd) (dE L ((cB L oid).slots.at g.toNat))).snd=(ft L S oid w g').snd/\L=L/\cB L oid=cB L oid))/\(decide (g<16)=false->True/\(ft L S oid w g).fst=(ft L S oid w
  16).fst/\(ft L S oid w g).snd=(ft L S oid w 16).snd):=by
 refine⟨⟨0,⟨by omega,by omega⟩,rfl,rfl,rfl,rfl,rfl,rfl,rfl⟩,fun g hg=>⟨fun hlt=>?_,fun hge=>?_⟩⟩
 ·have hlt:=an hlt;obtain⟨h0,h1⟩:=hg;have hb:kc (ft L S oid w g) 1000000:=df (jQ (f:=p5 L oid w) hS g.toNat) (by omega)
  have hs:ft L S oid w (g+1)=kq (ft L S oid w g) (p5 L oid w g.toNat):=by
   unfold ft;rw[show(g+1).toNat=g.toNat+1 by omega];rfl
  have hm:dI IntKind.i64 (g+1):=by simp only[dI,bU];omega
  have hi:lR (g+1):=⟨by omega,by omega⟩
  refine⟨⟨h0,hlt⟩,fun hw=>⟨rfl,hb,hm,g+1,hi,by omega,rfl,rfl,rfl,?_,?_,rfl,rfl⟩,fun hw=>⟨rfl,hb,hm,g+1,hi,by omega,rfl,rfl,rfl,?_,?_,rfl,rfl⟩⟩<;>(rw[hs];unfold p5;subst hw;rfl)
 ·have hge:=ak hge;have:g=16:=by have:=hg.2;omega
  subst this;exact⟨trivial,rfl,rfl⟩
theorem oJ[Fen]:p7 Tryz.prog 39 Cm:=vh (bL mD (bL J7 ea)) (fun _=>rfl) fun L S x hQ hok=>by
 obtain⟨oid,w,_⟩:=x;exact eH (inl:=cq) (ann:=(qJ [(39,2,L0 [0,2,20] (fun g=> [(21,.it .i64 g)]) 0 (fun g=>qd 1 (ft L S oid w g)) lR 16)])) (aS rn (aS FU (aS AP bf))) (cP uU eF) (Am L S oid w hQ) (by kernel_rfl)
theorem DD(L:List Sx.Obj)(S:CS)(k:Sx.Key)(hS:kc S 800000)(h0:0<=k.rights)(h7:k.rights<=7):
 true=true/\kc (S.fst,S.snd) 900000/\(decide (k.rights=0)=true->true=true/\kc ((ft L (S.fst,S.snd) k.oid (!decide (cG BinOp.and IntKind.i64 k.rights 2=0)) 16).fst,(ft L (S.fst,
  S.snd) k.oid (!decide (cG BinOp.and IntKind.i64 k.rights 2=0)) 16).snd) 1000000/\True/\(kq ((ft L (S.fst,S.snd) k.oid (!decide (cG BinOp.and IntKind.i64 k.rights 2=0)) 16).fst,(ft L
  (S.fst,S.snd) k.oid (!decide (cG BinOp.and IntKind.i64 k.rights 2=0)) 16).snd) (Key.mk 5 k.oid k.count void.call void.rights void.value)).fst=(xz L S k).fst/\(kq ((ft L (S.fst,S.snd) k.oid
  (!decide (cG BinOp.and IntKind.i64 k.rights 2=0)) 16).fst,(ft L (S.fst,S.snd) k.oid (!decide (cG BinOp.and IntKind.i64 k.rights 2=0)) 16).snd) (Key.mk 5 k.oid k.count void.call void.rights
  void.value)).snd=(xz L S k).snd)/\(decide (k.rights=0)=false->True/\(ft L (S.fst,S.snd) k.oid (!decide (cG BinOp.and IntKind.i64 k.rights 2=0)) 16).fst=(xz L S k).fst/\(ft L
  (S.fst,S.snd) k.oid (!decide (cG BinOp.and IntKind.i64 k.rights 2=0)) 16).snd=(xz L S k).snd):=by
 have hb:(!decide (cG BinOp.and IntKind.i64 k.rights 2=0))=dP k:=by rw[LM h0 h7];unfold dP;simp
 rw[hb];have h16:kc (ft L S k.oid (dP k) 16) 1000000:=df (jQ (f:=p5 L k.oid (dP k)) hS (16:Int).toNat) (by omega)
 refine⟨rfl,df hS (by omega),fun h=>⟨rfl,h16,trivial,?_,?_⟩,fun h=>⟨trivial,?_,?_⟩⟩
 ·unfold xz;rw[au (an h)];rfl
 ·unfold xz;rw[au (an h)];rfl
 ·unfold xz;rw[ar (ak h)]
 ·unfold xz;rw[ar (ak h)]
theorem BT[Fen]:p7 Tryz.prog 37 Fh:=vh (bL me ea) (fun _=>rfl) fun L S x hQ hok=>eH (inl:=cq) (ann:=cH) bf (cP oJ (cP uU eF)) (DD L S (nf x.1) hQ.1 hQ.2.1 hQ.2.2) (by kernel_rfl)
theorem BZ(L:List Sx.Obj)(S:CS)(k:Sx.Key)(hS:kc S 800000):
 true=true/\kc (S.fst,S.snd) 900000/\true=true/\kc ((ft L (S.fst,S.snd) k.oid false 16).fst,(ft L (S.fst,S.snd) k.oid false 16).snd) 1000000/\True/\(kq ((ft L (S.fst,S.snd) k.oid
  false 16).fst,(ft L (S.fst,S.snd) k.oid false 16).snd) (Key.mk 6 k.oid k.count void.call void.rights void.value)).fst=(Er L S k).fst/\(kq ((ft L (S.fst,S.snd) k.oid false 16).fst,(ft L
  (S.fst,S.snd) k.oid false 16).snd) (Key.mk 6 k.oid k.count void.call void.rights void.value)).snd=(Er L S k).snd:=by
 have h16:kc (ft L S k.oid false 16) 1000000:=df (jQ (f:=p5 L k.oid false) hS (16:Int).toNat) (by omega)
 exact⟨rfl,df hS (by omega),rfl,h16,trivial,rfl,rfl⟩
theorem Eb[Fen]:p7 Tryz.prog 38 Gy:=vh (bL me ea) (fun _=>rfl) fun L S x hQ hok=>eH (inl:=cq) (ann:=cH) bf (cP oJ (cP uU eF)) (BZ L S (nf x.1) hQ) (by kernel_rfl)
end Go.Proofs.YtmfbohanboiklaaGreatDoor
