import Derived.Test.YtmfbohanboiklaaCN
import Derived.Test.YtmfbohanboiklaaSpHa
set_option linter.unusedSimpArgs false
set_option linter.unusedVariables false
namespace Go.Proofs.Ytmfbohanboiklaa
open Go.Sx
set_option maxRecDepth 100000
theorem Hi (L:List Sx.Obj) (S:CS) (k:Sx.Key) (hS:kN S 1000000):
 true=true/\((!(decide (2<=k.kind)&&decide (k.kind<=10)))=true->True/\S.fst=(kW S k).fst/\S.snd=(kW S k).snd)/\((!(decide (2<=k.kind)&&decide (k.kind<=10)))=false->(aU
  IntKind.i64 (ba S.fst [k.kind,k.oid,k.count,k.call,k.rights]+1)/\u4 S.fst/\(0<=aG (aZ S.fst [k.kind,k.oid,k.count,k.call,k.rights])/\aG (aZ S.fst [k.kind,k.oid,k.count,
  k.call,k.rights])< ↑(aa (aS S.fst [k.kind,k.oid,k.count,k.call,k.rights])))/\(decide (ba (cB (aS S.fst [k.kind,k.oid,k.count,k.call,k.rights]) (aG (aZ S.fst [k.kind,k.oid,
  k.count,k.call,k.rights])).toNat (ba S.fst [k.kind,k.oid,k.count,k.call,k.rights]+1)) [k.kind,k.oid,k.count,k.call,k.rights]=1)=true->eC (aa S.snd) 40/\True/\cB (aS
  S.fst [k.kind,k.oid,k.count,k.call,k.rights]) (aG (aZ S.fst [k.kind,k.oid,k.count,k.call,k.rights])).toNat (ba S.fst [k.kind,k.oid,k.count,k.call,k.rights]+1)=(kW S k).fst/\
  bg S.snd [k.kind,k.oid,k.count,k.call,k.rights]=(kW S k).snd)/\(decide (ba (cB (aS S.fst [k.kind,k.oid,k.count,k.call,k.rights]) (aG (aZ S.fst [k.kind,k.oid,k.count,
  k.call,k.rights])).toNat (ba S.fst [k.kind,k.oid,k.count,k.call,k.rights]+1)) [k.kind,k.oid,k.count,k.call,k.rights]=1)=false->True/\cB (aS S.fst [k.kind,k.oid,k.count,
  k.call,k.rights]) (aG (aZ S.fst [k.kind,k.oid,k.count,k.call,k.rights])).toNat (ba S.fst [k.kind,k.oid,k.count,k.call,k.rights]+1)=(kW S k).fst/\S.snd=(kW S k).snd))/\u4
  S.fst/\aU IntKind.i64 (ba (aS S.fst [k.kind,k.oid,k.count,k.call,k.rights]) [k.kind,k.oid,k.count,k.call,k.rights]+1)/\(0<=aG (aZ S.fst [k.kind,k.oid,k.count,k.call,
  k.rights])/\aG (aZ S.fst [k.kind,k.oid,k.count,k.call,k.rights])< ↑(aa (aS S.fst [k.kind,k.oid,k.count,k.call,k.rights])))/\(decide (ba (cB (aS S.fst [k.kind,k.oid,
  k.count,k.call,k.rights]) (aG (aZ S.fst [k.kind,k.oid,k.count,k.call,k.rights])).toNat (ba (aS S.fst [k.kind,k.oid,k.count,k.call,k.rights]) [k.kind,k.oid,k.count,k.call,
  k.rights]+1)) [k.kind,k.oid,k.count,k.call,k.rights]=1)=true->eC (aa S.snd) 40/\True/\cB (aS S.fst [k.kind,k.oid,k.count,k.call,k.rights]) (aG (aZ S.fst [k.kind,k.oid,
  k.count,k.call,k.rights])).toNat (ba (aS S.fst [k.kind,k.oid,k.count,k.call,k.rights]) [k.kind,k.oid,k.count,k.call,k.rights]+1)=(kW S k).fst/\bg S.snd [k.kind,k.oid,k.count,
  k.call,k.rights]=(kW S k).snd)/\(decide (ba (cB (aS S.fst [k.kind,k.oid,k.count,k.call,k.rights]) (aG (aZ S.fst [k.kind,k.oid,k.count,k.call,k.rights])).toNat (ba (aS
  S.fst [k.kind,k.oid,k.count,k.call,k.rights]) [k.kind,k.oid,k.count,k.call,k.rights]+1)) [k.kind,k.oid,k.count,k.call,k.rights]=1)=false->True/\cB (aS S.fst [k.kind,k.oid,
  k.count,k.call,k.rights]) (aG (aZ S.fst [k.kind,k.oid,k.count,k.call,k.rights])).toNat (ba (aS S.fst [k.kind,k.oid,k.count,k.call,k.rights]) [k.kind,k.oid,k.count,k.call,
  k.rights]+1)=(kW S k).fst/\S.snd=(kW S k).snd)):=by
 change true=true/\((!kU k)=true->True/\S.1=(kW S k).1/\S.2=(kW S k).2)/\((!kU k)=false->_)
 refine⟨rfl,fun h=>?_,fun h=>?_⟩
 ·have h:kU k=false:=by simpa using h
  unfold kW;rw[h];exact⟨trivial,rfl,rfl⟩
 have h:kU k=true:=by simpa using h
 have e:kW S k=(cB (aS S.1 (bd k)) (aZ S.1 (bd k)) (ba S.1 (bd k)+1),if cR S.1 (bd k)=true then S.2 else bg S.2 (bd k)):=by unfold kW;rw[Oa h];rfl
 rw[e];obtain⟨h1,h2,h3,h4,h5⟩:=Bo (c:=bd k) hS
 change (_/\_/\_/\(decide (ba (cB (aS S.1 (bd k)) (aZ S.1 (bd k)) (ba S.1 (bd k)+1)) (bd k)=1)=true->_)/\(decide (ba (cB (aS S.1 (bd k)) (aZ S.1 (bd k)) (ba S.1 (bd k)+1)) (bd k)=1)=false->_))/\
  u4 _/\aU _ (ba (aS S.1 (bd k)) (bd k)+1)/\_/\(decide (ba (cB (aS S.1 (bd k)) (aZ S.1 (bd k)) (ba (aS S.1 (bd k)) (bd k)+1)) (bd k)=1)=true->eC _ 40/\True/\cB (aS S.1 (bd k)) (aZ S.1 (bd k)) (ba (aS S.1 (bd k)) (bd k)+1)=_/\_=_)/\
  (decide (ba (cB (aS S.1 (bd k)) (aZ S.1 (bd k)) (ba (aS S.1 (bd k)) (bd k)+1)) (bd k)=1)=false->True/\cB (aS S.1 (bd k)) (aZ S.1 (bd k)) (ba (aS S.1 (bd k)) (bd k)+1)=_/\_=_)
 rw[G6,GQ]
 have hy:decide (ba S.1 (bd k)+1=1)=true->S.2++ [bd k]=if cR S.1 (bd k)=true then S.2 else bg S.2 (bd k):=fun hd=>by
  rw[N9 (h5.1 (N7 hd))];rfl
 have hn:decide (ba S.1 (bd k)+1=1)=false->S.2=if cR S.1 (bd k)=true then S.2 else bg S.2 (bd k):=fun hd=>by
  rw[Oa (Decidable.byContradiction fun hc=>N6 hd (h5.2 hc))]
 exact⟨⟨h1,h2,h3,fun hd=>⟨h4,trivial,rfl,hy hd⟩,fun hd=>⟨trivial,rfl,hn hd⟩⟩,h2,h1,h3,fun hd=>⟨h4,trivial,rfl,hy hd⟩,fun hd=>⟨trivial,rfl,hn hd⟩⟩
theorem vb:si Try.prog 64 JV:=wh (aI zN cM) (fun _=>rfl) fun L S x hQ hok=>(aj.tY (k:=0) (res':=Ni S L) rfl (aj.qj (e:=qH) (aL (inl:=(fun f=>f==74)) (ann:=bW) aB (Hi L S x.1 hQ) (by kernel_rfl)) fun _ _ h=>C1 h))
theorem A3 (L:List Sx.Obj) (S:CS) (oid:Int) (w:Bool) (hS:kN S 900000):
 (∃g,bP g/\w=w/\(bm L oid).slots=(bm L oid).slots/\0=g/\S.fst=(fB L S oid w g).fst/\S.snd=(fB L S oid w g).snd/\L=L/\bm L oid=bm L oid)/\∀(g:Int),bP g
  ->(decide (g<16)=true->(0<=g/\g< ↑16)/\(w=true->true=true/\kN ((fB L S oid w g).fst,(fB L S oid w g).snd) 1000000/\aU IntKind.i64 (g+1)/\∃g',bP g'/\(16-g').toNat<
  (16-g).toNat/\w=w/\(bm L oid).slots=(bm L oid).slots/\g+1=g'/\(kW ((fB L S oid w g).fst,(fB L S oid w g).snd) (cE (bp L ((bm L oid).slots.at g.toNat)))).fst=(fB
  L S oid w g').fst/\(kW ((fB L S oid w g).fst,(fB L S oid w g).snd) (cE (bp L ((bm L oid).slots.at g.toNat)))).snd=(fB L S oid w g').snd/\L=L/\bm L oid=bm L oid)/\(w=
  false->true=true/\kN ((fB L S oid w g).fst,(fB L S oid w g).snd) 1000000/\aU IntKind.i64 (g+1)/\∃g',bP g'/\(16-g').toNat<(16-g).toNat/\w=w/\(bm L oid).slots=(bm
  L oid).slots/\g+1=g'/\(kW ((fB L S oid w g).fst,(fB L S oid w g).snd) (bp L ((bm L oid).slots.at g.toNat))).fst=(fB L S oid w g').fst/\(kW ((fB L S oid w g).fst,(fB L S oid w
  g).snd) (bp L ((bm L oid).slots.at g.toNat))).snd=(fB L S oid w g').snd/\L=L/\bm L oid=bm L oid))/\(decide (g<16)=false->True/\(fB L S oid w g).fst=(fB L S oid w
  16).fst/\(fB L S oid w g).snd=(fB L S oid w 16).snd):=by
 refine⟨⟨0,⟨by omega,by omega⟩,rfl,rfl,rfl,rfl,rfl,rfl,rfl⟩,fun g hg=>⟨fun hlt=>?_,fun hge=>?_⟩⟩
 ·have hlt:=N7 hlt;obtain⟨h0,h1⟩:=hg;have hb:kN (fB L S oid w g) 1000000:=c8 (j3 (f:=kM L oid w) hS g.toNat) (by omega)
  have hs:fB L S oid w (g+1)=kW (fB L S oid w g) (kM L oid w g.toNat):=by
   unfold fB;rw[show(g+1).toNat=g.toNat+1 by omega];rfl
  have hm:aU IntKind.i64 (g+1):=by simp only[aU,bG];omega
  have hi:bP (g+1):=⟨by omega,by omega⟩
  refine⟨⟨h0,hlt⟩,fun hw=>⟨rfl,hb,hm,g+1,hi,by omega,rfl,rfl,rfl,?_,?_,rfl,rfl⟩,fun hw=>⟨rfl,hb,hm,g+1,hi,by omega,rfl,rfl,rfl,?_,?_,rfl,rfl⟩⟩<;>(rw[hs];unfold kM;subst hw;rfl)
 ·have hge:=N6 hge;have:g=16:=by have:=hg.2;omega
  subst this;exact⟨trivial,rfl,rfl⟩
theorem pq:si Try.prog 50 D1:=wh (aI jP (aI LS cM)) (fun _=>rfl) fun L S x hQ hok=>by
 obtain⟨oid,w,_⟩:=x;exact cT (inl:=bz) (ann:=(jM [(50,2,ND [0,2,20] (fun g=> [(21,.it .i64 g)]) 0 (fun g=>qK 1 (fB L S oid w g)) bP 16)])) (an pe (an Hb (an Bn aB))) (cg vb cP) (A3 L S oid w hQ) (by kernel_rfl)
theorem Dn (L:List Sx.Obj) (S:CS) (k:Sx.Key) (hS:kN S 800000) (h0:0<=k.rights) (h7:k.rights<=7):
 true=true/\kN (S.fst,S.snd) 900000/\(decide (k.rights=0)=true->true=true/\kN ((fB L (S.fst,S.snd) k.oid (!decide (cG BinOp.and IntKind.i64 k.rights 2=0)) 16).fst,(fB L (S.fst,
  S.snd) k.oid (!decide (cG BinOp.and IntKind.i64 k.rights 2=0)) 16).snd) 1000000/\True/\(kW ((fB L (S.fst,S.snd) k.oid (!decide (cG BinOp.and IntKind.i64 k.rights 2=0)) 16).fst,(fB L
  (S.fst,S.snd) k.oid (!decide (cG BinOp.and IntKind.i64 k.rights 2=0)) 16).snd) (Key.mk 5 k.oid k.count void.call void.rights void.value)).fst=(yk L S k).fst/\(kW ((fB L (S.fst,S.snd) k.oid
  (!decide (cG BinOp.and IntKind.i64 k.rights 2=0)) 16).fst,(fB L (S.fst,S.snd) k.oid (!decide (cG BinOp.and IntKind.i64 k.rights 2=0)) 16).snd) (Key.mk 5 k.oid k.count void.call void.rights
  void.value)).snd=(yk L S k).snd)/\(decide (k.rights=0)=false->True/\(fB L (S.fst,S.snd) k.oid (!decide (cG BinOp.and IntKind.i64 k.rights 2=0)) 16).fst=(yk L S k).fst/\(fB L
  (S.fst,S.snd) k.oid (!decide (cG BinOp.and IntKind.i64 k.rights 2=0)) 16).snd=(yk L S k).snd):=by
 have hb:(!decide (cG BinOp.and IntKind.i64 k.rights 2=0))=bJ k:=by rw[Nl h0 h7];unfold bJ;simp
 rw[hb];have h16:kN (fB L S k.oid (bJ k) 16) 1000000:=c8 (j3 (f:=kM L k.oid (bJ k)) hS (16:Int).toNat) (by omega)
 refine⟨rfl,c8 hS (by omega),fun h=>⟨rfl,h16,trivial,?_,?_⟩,fun h=>⟨trivial,?_,?_⟩⟩
 ·unfold yk;rw[Oa (N7 h)];rfl
 ·unfold yk;rw[Oa (N7 h)];rfl
 ·unfold yk;rw[N9 (N6 h)]
 ·unfold yk;rw[N9 (N6 h)]
theorem Et:si Try.prog 48 Gp:=wh (aI mz cM) (fun _=>rfl) fun L S x hQ hok=>cT (inl:=bz) (ann:=bW) aB (cg pq (cg vb cP)) (Dn L S (qG x.1) hQ.1 hQ.2.1 hQ.2.2) (by kernel_rfl)
theorem DO (L:List Sx.Obj) (S:CS) (k:Sx.Key) (hS:kN S 800000):
 true=true/\kN (S.fst,S.snd) 900000/\true=true/\kN ((fB L (S.fst,S.snd) k.oid false 16).fst,(fB L (S.fst,S.snd) k.oid false 16).snd) 1000000/\True/\(kW ((fB L (S.fst,S.snd) k.oid
  false 16).fst,(fB L (S.fst,S.snd) k.oid false 16).snd) (Key.mk 6 k.oid k.count void.call void.rights void.value)).fst=(FJ L S k).fst/\(kW ((fB L (S.fst,S.snd) k.oid false 16).fst,(fB L
  (S.fst,S.snd) k.oid false 16).snd) (Key.mk 6 k.oid k.count void.call void.rights void.value)).snd=(FJ L S k).snd:=by
 have h16:kN (fB L S k.oid false 16) 1000000:=c8 (j3 (f:=kM L k.oid false) hS (16:Int).toNat) (by omega)
 exact⟨rfl,c8 hS (by omega),rfl,h16,trivial,rfl,rfl⟩
theorem DV:si Try.prog 49 F2:=wh (aI mz cM) (fun _=>rfl) fun L S x hQ hok=>cT (inl:=bz) (ann:=bW) aB (cg pq (cg vb cP)) (DO L S (qG x.1) hQ) (by kernel_rfl)
end Go.Proofs.Ytmfbohanboiklaa
