import Derived.Test.YtghpaegglbbocaaGreatCtRf
import Derived.Test.YtghpaegglbbocaaGreatCtMr
namespace Go.Proofs.YtghpaegglbbocaaGreat
open Go.Sx
set_option maxRecDepth 100000
theorem Pu (a:tx) (hs:aw a.msg.data):
 true=true/\aG IntKind.i64 (bW a.msg.data)/\(decide (100<bW a.msg.data)=true->true=true)/\(decide (100<bW a.msg.data)=false->true=true/\aw a.msg.data/\true=true/\
  aw a.msg.data/\(decide ((aB [] a.now a.key a.msg).code=0)&&(vP (aB [] a.now a.key a.msg).data (ByteArray.mk (Array.mk []))&&(tR (aB [] a.now a.key a.msg).k0 void&&(tR (aB
  [] a.now a.key a.msg).k1 void&&(tR (aB [] a.now a.key a.msg).k2 void&&true))&&true))&& !cA [] a.now a.key a.msg&&decide (bJ [] a.now a.key a.msg=1)&&(decide ((aB [] a.now
  a.key a.msg).code=(aB [] a.now a.key a.msg).code)&&(vP (aB [] a.now a.key a.msg).data (aB [] a.now a.key a.msg).data&&(tR (aB [] a.now a.key a.msg).k0 (aB [] a.now a.key
  a.msg).k0&&(tR (aB [] a.now a.key a.msg).k1 (aB [] a.now a.key a.msg).k1&&(tR (aB [] a.now a.key a.msg).k2 (aB [] a.now a.key a.msg).k2&&true))&&true)))&& !cA [] a.now a.key
  a.msg&&decide (bJ [] a.now a.key a.msg=bJ [] a.now a.key a.msg)&&true)=true):=by
 have e:bJ [] a.now a.key a.msg=1:=by unfold bJ;rw[Yq (show ai ([]:List Sx.Obj)=0 from rfl)]
 have e1:aB [] a.now a.key a.msg=dg:=by unfold aB;rw[e];rfl
 have e2:cA [] a.now a.key a.msg=false:=by unfold cA;rw[e];rfl
 rw[e,e1,e2];exact⟨rfl,by unfold aw at hs;simp only[aG,bY,bW];omega,fun _=>rfl,fun _=>⟨rfl,hs,rfl,hs,rfl⟩⟩
theorem OR (a:tx) (hs:aw a.msg.data):aj Tryz.prog 3 [se a] [] (mS (.bo true)) (fun _ _=>False):=
 bn (inl:=(fun f=>f==10)) (ann:=(iB [(10,4,Tu 2)])) (ab pR ak) (aD NN aC) (Pu a hs) (by kernel_rfl)
theorem JI (l:List Sx.Obj) (x:List tx) (hx:∀i,i<ai x->aw (ah x i gX).msg.data):
 true=true/\True/\(fE l=false->true=true)/\(fE l=true->qp (asks x)/\(jh (asks x)=true->true=true)/\(jh (asks x)=false->(∃g,xX (ai x) g/\false=
  false/\0=g.fst/\l=l/\ai x=ai x/\(DF x=DF x)/\l=g.snd/\l=g.snd)/\∀(g:Int×List Sx.Obj),xX (ai x) g->(decide (g.fst<b9 (ai x))=true->(0<=g.fst/\g.fst<
  ↑(ai x))/\g.fst.toNat<ai x/\true=true/\g.snd=g.snd/\(aq g.snd/\aw (ah x g.fst.toNat gX).msg.data)/\(km g.snd (ah x g.fst.toNat gX)=false->((!true|| !ev g.snd
  g.snd)=true->false=true)/\((!true|| !ev g.snd g.snd)=false->aG IntKind.i64 (g.fst+1)/\∃g',xX (ai x) g'/\wW (ai x) g'<wW (ai x) g/\false=false/\g.fst+1=
  g'.fst/\l=l/\ai x=ai x/\(DF x=DF x)/\g.snd=g'.snd/\g.snd=g'.snd))/\(km g.snd (ah x g.fst.toNat gX)=true->((!true|| !ev (fa g.snd (ah x g.fst.toNat gX))
  (fa g.snd (ah x g.fst.toNat gX)))=true->false=true)/\((!true|| !ev (fa g.snd (ah x g.fst.toNat gX)) (fa g.snd (ah x g.fst.toNat gX)))=false->aG IntKind.i64
  (g.fst+1)/\∃g',xX (ai x) g'/\wW (ai x) g'<wW (ai x) g/\false=false/\g.fst+1=g'.fst/\l=l/\ai x=ai x/\(DF x=DF x)/\fa g.snd (ah x g.fst.toNat gX)=
  g'.snd/\fa g.snd (ah x g.fst.toNat gX)=g'.snd)))/\(decide (g.fst<b9 (ai x))=false->true=true))):=by
 have hq:qp (asks x):=⟨x,rfl,hx⟩;refine⟨rfl,trivial,fun _=>rfl,fun hm=>⟨hq,fun _=>rfl,fun hv=>⟨⟨(0,l),⟨by simp,by simp,(wR hm).1⟩,(by(repeat' apply And.intro)<;>rfl)⟩,fun g hg=>⟨fun hlt=>?_,fun _=>rfl⟩⟩⟩⟩
 obtain⟨g0,g1,g2⟩:=hg;have hlt:g.1<(ai x:Int):=Yn hlt;have hlen:¬30<(ai x:Int):=DD hv;have hin:aG IntKind.i64 (g.1+1):=by simp only[aG,bY];omega
 have hs:=hx g.1.toNat (by omega)
 have g3:aq (fa g.2 (ah x g.1.toNat gX)):=NG g2
 refine⟨⟨g0,hlt⟩,by omega,rfl,rfl,⟨g2,hs⟩,fun hc=>⟨fun h=>?_,fun _=>⟨hin,(g.1+1,g.2),⟨by simp only;omega,by simp only;omega,g2⟩,by unfold wW;simp only;omega,(by(repeat' apply And.intro)<;>rfl)⟩⟩,fun hc=>⟨fun h=>?_,fun _=>⟨hin,(g.1+1,fa g.2 (ah x g.1.toNat gX)),⟨by simp only;omega,by simp only;omega,g3⟩,by unfold wW;simp only;omega,(by(repeat' apply And.intro)<;>rfl)⟩⟩⟩
 ·rw[iq]at h;simp at h
 ·rw[iq]at h;simp at h
theorem MT (l:List Sx.Obj) (x:List tx) (hx:∀i,i<ai x->aw (ah x i gX).msg.data):aj Tryz.prog 5 [.sa 0,.sa 1] [.ro (.arr none 163 (.ob l)),.ro (.arr none 27 (asks x))] (mS (.bo true)) (fun _ _=>False):=
 bn (inl:=bp) (ann:=(iB [(5,5,XC [1,4,5] (fun(g:Int×List Sx.Obj)=> [(6,.it .i64 g.1)]) 0 163 (fun g=> .ob g.2) (fun g=> [(2,.store tS eS g.2)]) (xX (ai x)) (wW (ai x)))])) (ab wb (ab pR (ab Fl ak))) (aD wI (aD vZ aC)) (JI l x hx) (by kernel_rfl)
theorem QE (l:List Sx.Obj) (x:List tx) (hx:∀i,i<ai x->aw (ah x i gX).msg.data):
 true=true/\True/\(fE l=false->true=true)/\(fE l=true->qp (asks x)/\(jh (asks x)=true->true=true)/\(jh (asks x)=false->(∃g,Dg (ai x) g/\false=
  false/\0=g/\l=l/\ai x=ai x/\(DF x=DF x)/\l=l)/\∀(g:Int),Dg (ai x) g->(decide (g<b9 (ai x))=true->true=true/\True/\(fE l=false->(0<=g/\g< ↑(ai x))
  /\g.toNat<ai x/\true=true/\False)/\(fE l=true->(0<=g/\g< ↑(ai x))/\g.toNat<ai x/\true=true/\l=l/\(aq l/\aw (ah x g.toNat gX).msg.data)/\(km l (ah x
  g.toNat gX)=false->((!true|| !ev l l)=true->false=true)/\((!true|| !ev l l)=false->aG IntKind.i64 (g+1)/\∃g',Dg (ai x) g'/\(b9 (ai x)-g').toNat<(b9 (ai x)
  -g).toNat/\false=false/\g+1=g'/\l=l/\ai x=ai x/\(DF x=DF x)/\l=l))/\(km l (ah x g.toNat gX)=true->((!true|| !ev (fa l (ah x g.toNat gX)) (fa l
  (ah x g.toNat gX)))=true->false=true)/\((!true|| !ev (fa l (ah x g.toNat gX)) (fa l (ah x g.toNat gX)))=false->aG IntKind.i64 (g+1)/\∃g',Dg (ai x) g'/\
  (b9 (ai x)-g').toNat<(b9 (ai x)-g).toNat/\false=false/\g+1=g'/\l=l/\ai x=ai x/\(DF x=DF x)/\l=l))))/\(decide (g<b9 (ai x))=false->true=true))):=by
 have hq:qp (asks x):=⟨x,rfl,hx⟩;refine⟨rfl,trivial,fun _=>rfl,fun hm=>⟨hq,fun _=>rfl,fun hv=>⟨⟨0,⟨by omega,by omega⟩,(by(repeat' apply And.intro)<;>rfl)⟩,fun g hg=>⟨fun hlt=>?_,fun _=>rfl⟩⟩⟩⟩
 obtain⟨g0,g1⟩:=hg;have hlt:g<(ai x:Int):=Yn hlt;have hlen:¬30<(ai x:Int):=DD hv;have hin:aG IntKind.i64 (g+1):=by simp only[aG,bY];omega
 have hs:=hx g.toNat (by omega)
 have hL:=(wR hm).1;refine⟨rfl,trivial,fun h=>by rw[hm]at h;simp at h,fun _=>⟨⟨g0,hlt⟩,by omega,rfl,rfl,⟨hL,hs⟩,fun hc=>⟨fun h=>?_,fun _=>⟨hin,g+1,⟨by omega,by omega⟩,by unfold b9;omega,(by(repeat' apply And.intro)<;>rfl)⟩⟩,fun hc=>⟨fun h=>?_,fun _=>⟨hin,g+1,⟨by omega,by omega⟩,by unfold b9;omega,(by(repeat' apply And.intro)<;>rfl)⟩⟩⟩⟩
 ·rw[iq]at h;simp at h
 ·rw[iq]at h;simp at h
theorem Pm (l:List Sx.Obj) (x:List tx) (hx:∀i,i<ai x->aw (ah x i gX).msg.data):aj Tryz.prog 6 [.sa 0,.sa 1] [.ro (.arr none 163 (.ob l)),.ro (.arr none 27 (asks x))] (mS (.bo true)) (fun _ _=>False):=
 bn (inl:=bp) (ann:=(iB [(6,4,Rk [0,1,4] (fun g=> [(5,.it .i64 g)]) (Dg (ai x)) (b9 (ai x)))])) (ab wb (ab pR (ab Fl ak))) (aD wI (aD vZ aC)) (QE l x hx) (by kernel_rfl)
end Go.Proofs.YtghpaegglbbocaaGreat
