import Derived.Test.YtmfbohanboiklaaGreatCN
import Derived.Test.YtmfbohanboiklaaGreatSpHa
set_option linter.unusedSimpArgs false
set_option linter.unusedVariables false
namespace Go.Proofs.YtmfbohanboiklaaGreat
open Go.Sx
set_option maxRecDepth 100000
theorem CO (L:List Sx.Obj) (S:CS) (k:Sx.Key) (hS:jg S 1000000):
 true=true/\((!(decide (2<=k.kind)&&decide (k.kind<=10)))=true->True/\S.fst=(ju S k).fst/\S.snd=(ju S k).snd)/\((!(decide (2<=k.kind)&&decide (k.kind<=10)))=false->(fy
  IntKind.i64 (aR S.fst [k.kind,k.oid,k.count,k.call,k.rights]+1)/\rN S.fst/\(0<=dp (aO S.fst [k.kind,k.oid,k.count,k.call,k.rights])/\dp (aO S.fst [k.kind,k.oid,k.count,
  k.call,k.rights])< ↑(ar (aK S.fst [k.kind,k.oid,k.count,k.call,k.rights])))/\(decide (aR (bN (aK S.fst [k.kind,k.oid,k.count,k.call,k.rights]) (dp (aO S.fst [k.kind,k.oid,
  k.count,k.call,k.rights])).toNat (aR S.fst [k.kind,k.oid,k.count,k.call,k.rights]+1)) [k.kind,k.oid,k.count,k.call,k.rights]=1)=true->jt (ar S.snd) 40/\True/\bN (aK
  S.fst [k.kind,k.oid,k.count,k.call,k.rights]) (dp (aO S.fst [k.kind,k.oid,k.count,k.call,k.rights])).toNat (aR S.fst [k.kind,k.oid,k.count,k.call,k.rights]+1)=(ju S k).fst/\
  bf S.snd [k.kind,k.oid,k.count,k.call,k.rights]=(ju S k).snd)/\(decide (aR (bN (aK S.fst [k.kind,k.oid,k.count,k.call,k.rights]) (dp (aO S.fst [k.kind,k.oid,k.count,
  k.call,k.rights])).toNat (aR S.fst [k.kind,k.oid,k.count,k.call,k.rights]+1)) [k.kind,k.oid,k.count,k.call,k.rights]=1)=false->True/\bN (aK S.fst [k.kind,k.oid,k.count,
  k.call,k.rights]) (dp (aO S.fst [k.kind,k.oid,k.count,k.call,k.rights])).toNat (aR S.fst [k.kind,k.oid,k.count,k.call,k.rights]+1)=(ju S k).fst/\S.snd=(ju S k).snd))/\rN
  S.fst/\fy IntKind.i64 (aR (aK S.fst [k.kind,k.oid,k.count,k.call,k.rights]) [k.kind,k.oid,k.count,k.call,k.rights]+1)/\(0<=dp (aO S.fst [k.kind,k.oid,k.count,k.call,
  k.rights])/\dp (aO S.fst [k.kind,k.oid,k.count,k.call,k.rights])< ↑(ar (aK S.fst [k.kind,k.oid,k.count,k.call,k.rights])))/\(decide (aR (bN (aK S.fst [k.kind,k.oid,
  k.count,k.call,k.rights]) (dp (aO S.fst [k.kind,k.oid,k.count,k.call,k.rights])).toNat (aR (aK S.fst [k.kind,k.oid,k.count,k.call,k.rights]) [k.kind,k.oid,k.count,k.call,
  k.rights]+1)) [k.kind,k.oid,k.count,k.call,k.rights]=1)=true->jt (ar S.snd) 40/\True/\bN (aK S.fst [k.kind,k.oid,k.count,k.call,k.rights]) (dp (aO S.fst [k.kind,k.oid,
  k.count,k.call,k.rights])).toNat (aR (aK S.fst [k.kind,k.oid,k.count,k.call,k.rights]) [k.kind,k.oid,k.count,k.call,k.rights]+1)=(ju S k).fst/\bf S.snd [k.kind,k.oid,k.count,
  k.call,k.rights]=(ju S k).snd)/\(decide (aR (bN (aK S.fst [k.kind,k.oid,k.count,k.call,k.rights]) (dp (aO S.fst [k.kind,k.oid,k.count,k.call,k.rights])).toNat (aR (aK
  S.fst [k.kind,k.oid,k.count,k.call,k.rights]) [k.kind,k.oid,k.count,k.call,k.rights]+1)) [k.kind,k.oid,k.count,k.call,k.rights]=1)=false->True/\bN (aK S.fst [k.kind,k.oid,
  k.count,k.call,k.rights]) (dp (aO S.fst [k.kind,k.oid,k.count,k.call,k.rights])).toNat (aR (aK S.fst [k.kind,k.oid,k.count,k.call,k.rights]) [k.kind,k.oid,k.count,k.call,
  k.rights]+1)=(ju S k).fst/\S.snd=(ju S k).snd)):=by
 change true=true/\((!kZ k)=true->True/\S.1=(ju S k).1/\S.2=(ju S k).2)/\((!kZ k)=false->_)
 refine⟨rfl,fun h=>?_,fun h=>?_⟩
 ·have h:kZ k=false:=by simpa using h
  unfold ju;rw[h];exact⟨trivial,rfl,rfl⟩
 have h:kZ k=true:=by simpa using h
 have e:ju S k=(bN (aK S.1 (bu k)) (aO S.1 (bu k)) (aR S.1 (bu k)+1),if bX S.1 (bu k)=true then S.2 else bf S.2 (bu k)):=by unfold ju;rw[JY h];rfl
 rw[e];obtain⟨h1,h2,h3,h4,h5⟩:=yU (c:=bu k) hS
 change (_/\_/\_/\(decide (aR (bN (aK S.1 (bu k)) (aO S.1 (bu k)) (aR S.1 (bu k)+1)) (bu k)=1)=true->_)/\(decide (aR (bN (aK S.1 (bu k)) (aO S.1 (bu k)) (aR S.1 (bu k)+1)) (bu k)=1)=false->_))/\
  rN _/\fy _ (aR (aK S.1 (bu k)) (bu k)+1)/\_/\(decide (aR (bN (aK S.1 (bu k)) (aO S.1 (bu k)) (aR (aK S.1 (bu k)) (bu k)+1)) (bu k)=1)=true->jt _ 40/\True/\bN (aK S.1 (bu k)) (aO S.1 (bu k)) (aR (aK S.1 (bu k)) (bu k)+1)=_/\_=_)/\
  (decide (aR (bN (aK S.1 (bu k)) (aO S.1 (bu k)) (aR (aK S.1 (bu k)) (bu k)+1)) (bu k)=1)=false->True/\bN (aK S.1 (bu k)) (aO S.1 (bu k)) (aR (aK S.1 (bu k)) (bu k)+1)=_/\_=_)
 rw[Eh,Dp]
 have hy:decide (aR S.1 (bu k)+1=1)=true->S.2++ [bu k]=if bX S.1 (bu k)=true then S.2 else bf S.2 (bu k):=fun hd=>by
  rw[JX (h5.1 (JV hd))];rfl
 have hn:decide (aR S.1 (bu k)+1=1)=false->S.2=if bX S.1 (bu k)=true then S.2 else bf S.2 (bu k):=fun hd=>by
  rw[JY (Decidable.byContradiction fun hc=>JU hd (h5.2 hc))]
 exact⟨⟨h1,h2,h3,fun hd=>⟨h4,trivial,rfl,hy hd⟩,fun hd=>⟨trivial,rfl,hn hd⟩⟩,h2,h1,h3,fun hd=>⟨h4,trivial,rfl,hy hd⟩,fun hd=>⟨trivial,rfl,hn hd⟩⟩
theorem sQ:qX Tryz.prog 71 EU:=tC (cF GV iC) (fun _=>rfl) fun L S x hQ hok=>(ah.rk (k:=0) (res':=IH S L) rfl (ah.oC (e:=qZ) (bx (inl:=(fun f=>f==96)) (ann:=cm) aS (CO L S x.1 hQ) (by kernel_rfl)) fun _ _ h=>zY h))
theorem zy (L:List Sx.Obj) (S:CS) (oid:Int) (w:Bool) (hS:jg S 900000):
 (∃g,kP g/\w=w/\(bO L oid).slots=(bO L oid).slots/\0=g/\S.fst=(eE L S oid w g).fst/\S.snd=(eE L S oid w g).snd/\L=L/\bO L oid=bO L oid)/\∀(g:Int),kP g
  ->(decide (g<16)=true->(0<=g/\g< ↑16)/\(w=true->true=true/\jg ((eE L S oid w g).fst,(eE L S oid w g).snd) 1000000/\fy IntKind.i64 (g+1)/\∃g',kP g'/\(16-g').toNat<
  (16-g).toNat/\w=w/\(bO L oid).slots=(bO L oid).slots/\g+1=g'/\(ju ((eE L S oid w g).fst,(eE L S oid w g).snd) (cC (cL L ((bO L oid).slots.at g.toNat)))).fst=(eE
  L S oid w g').fst/\(ju ((eE L S oid w g).fst,(eE L S oid w g).snd) (cC (cL L ((bO L oid).slots.at g.toNat)))).snd=(eE L S oid w g').snd/\L=L/\bO L oid=bO L oid)/\(w=
  false->true=true/\jg ((eE L S oid w g).fst,(eE L S oid w g).snd) 1000000/\fy IntKind.i64 (g+1)/\∃g',kP g'/\(16-g').toNat<(16-g).toNat/\w=w/\(bO L oid).slots=(bO
  L oid).slots/\g+1=g'/\(ju ((eE L S oid w g).fst,(eE L S oid w g).snd) (cL L ((bO L oid).slots.at g.toNat))).fst=(eE L S oid w g').fst/\(ju ((eE L S oid w g).fst,(eE L S oid w
  g).snd) (cL L ((bO L oid).slots.at g.toNat))).snd=(eE L S oid w g').snd/\L=L/\bO L oid=bO L oid))/\(decide (g<16)=false->True/\(eE L S oid w g).fst=(eE L S oid w
  16).fst/\(eE L S oid w g).snd=(eE L S oid w 16).snd):=by
 refine⟨⟨0,⟨by omega,by omega⟩,rfl,rfl,rfl,rfl,rfl,rfl,rfl⟩,fun g hg=>⟨fun hlt=>?_,fun hge=>?_⟩⟩
 ·have hlt:=JV hlt;obtain⟨h0,h1⟩:=hg;have hb:jg (eE L S oid w g) 1000000:=ck (iM (f:=oQ L oid w) hS g.toNat) (by omega)
  have hs:eE L S oid w (g+1)=ju (eE L S oid w g) (oQ L oid w g.toNat):=by
   unfold eE;rw[show(g+1).toNat=g.toNat+1 by omega];rfl
  have hm:fy IntKind.i64 (g+1):=by simp only[fy,br];omega
  have hi:kP (g+1):=⟨by omega,by omega⟩
  refine⟨⟨h0,hlt⟩,fun hw=>⟨rfl,hb,hm,g+1,hi,by omega,rfl,rfl,rfl,?_,?_,rfl,rfl⟩,fun hw=>⟨rfl,hb,hm,g+1,hi,by omega,rfl,rfl,rfl,?_,?_,rfl,rfl⟩⟩<;>(rw[hs];unfold oQ;subst hw;rfl)
 ·have hge:=JU hge;have:g=16:=by have:=hg.2;omega
  subst this;exact⟨trivial,rfl,rfl⟩
theorem nC:qX Tryz.prog 51 BS:=tC (cF oD (cF Hf iC)) (fun _=>rfl) fun L S x hQ hok=>by
 obtain⟨oid,w,_⟩:=x;exact dM (inl:=cg) (ann:=(y0 [(51,2,Jl [0,2,20] (fun g=> [(21,.it .i64 g)]) 0 (fun g=>oJ 1 (eE L S oid w g)) kP 16)])) (az p5 (az DK (az yI aS))) (bI sQ dR) (zy L S oid w hQ) (by kernel_rfl)
theorem Ah (L:List Sx.Obj) (S:CS) (k:Sx.Key) (hS:jg S 800000) (h0:0<=k.rights) (h7:k.rights<=7):
 true=true/\jg (S.fst,S.snd) 900000/\(decide (k.rights=0)=true->true=true/\jg ((eE L (S.fst,S.snd) k.oid (!decide (cq BinOp.and IntKind.i64 k.rights 2=0)) 16).fst,(eE L (S.fst,
  S.snd) k.oid (!decide (cq BinOp.and IntKind.i64 k.rights 2=0)) 16).snd) 1000000/\True/\(ju ((eE L (S.fst,S.snd) k.oid (!decide (cq BinOp.and IntKind.i64 k.rights 2=0)) 16).fst,(eE L
  (S.fst,S.snd) k.oid (!decide (cq BinOp.and IntKind.i64 k.rights 2=0)) 16).snd) (Key.mk 5 k.oid k.count void.call void.rights void.value)).fst=(vH L S k).fst/\(ju ((eE L (S.fst,S.snd) k.oid
  (!decide (cq BinOp.and IntKind.i64 k.rights 2=0)) 16).fst,(eE L (S.fst,S.snd) k.oid (!decide (cq BinOp.and IntKind.i64 k.rights 2=0)) 16).snd) (Key.mk 5 k.oid k.count void.call void.rights
  void.value)).snd=(vH L S k).snd)/\(decide (k.rights=0)=false->True/\(eE L (S.fst,S.snd) k.oid (!decide (cq BinOp.and IntKind.i64 k.rights 2=0)) 16).fst=(vH L S k).fst/\(eE L
  (S.fst,S.snd) k.oid (!decide (cq BinOp.and IntKind.i64 k.rights 2=0)) 16).snd=(vH L S k).snd):=by
 have hb:(!decide (cq BinOp.and IntKind.i64 k.rights 2=0))=cV k:=by rw[IZ h0 h7];unfold cV;simp
 rw[hb];have h16:jg (eE L S k.oid (cV k) 16) 1000000:=ck (iM (f:=oQ L k.oid (cV k)) hS (16:Int).toNat) (by omega)
 refine⟨rfl,ck hS (by omega),fun h=>⟨rfl,h16,trivial,?_,?_⟩,fun h=>⟨trivial,?_,?_⟩⟩
 ·unfold vH;rw[JY (JV h)];rfl
 ·unfold vH;rw[JY (JV h)];rfl
 ·unfold vH;rw[JX (JU h)]
 ·unfold vH;rw[JX (JU h)]
theorem Ap:qX Tryz.prog 49 Dx:=tC (cF xA iC) (fun _=>rfl) fun L S x hQ hok=>dM (inl:=cg) (ann:=cm) aS (bI nC (bI sQ dR)) (Ah L S (Cg x.1) hQ.1 hQ.2.1 hQ.2.2) (by kernel_rfl)
theorem BW (L:List Sx.Obj) (S:CS) (k:Sx.Key) (hS:jg S 800000):
 true=true/\jg (S.fst,S.snd) 900000/\true=true/\jg ((eE L (S.fst,S.snd) k.oid false 16).fst,(eE L (S.fst,S.snd) k.oid false 16).snd) 1000000/\True/\(ju ((eE L (S.fst,S.snd) k.oid
  false 16).fst,(eE L (S.fst,S.snd) k.oid false 16).snd) (Key.mk 6 k.oid k.count void.call void.rights void.value)).fst=(Cv L S k).fst/\(ju ((eE L (S.fst,S.snd) k.oid false 16).fst,(eE L
  (S.fst,S.snd) k.oid false 16).snd) (Key.mk 6 k.oid k.count void.call void.rights void.value)).snd=(Cv L S k).snd:=by
 have h16:jg (eE L S k.oid false 16) 1000000:=ck (iM (f:=oQ L k.oid false) hS (16:Int).toNat) (by omega)
 exact⟨rfl,ck hS (by omega),rfl,h16,trivial,rfl,rfl⟩
theorem AP:qX Tryz.prog 50 CQ:=tC (cF xA iC) (fun _=>rfl) fun L S x hQ hok=>dM (inl:=cg) (ann:=cm) aS (bI nC (bI sQ dR)) (BW L S (Cg x.1) hQ) (by kernel_rfl)
end Go.Proofs.YtmfbohanboiklaaGreat
