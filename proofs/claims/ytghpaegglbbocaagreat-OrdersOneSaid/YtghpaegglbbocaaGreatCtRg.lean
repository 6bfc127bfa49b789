import Derived.Test.YtghpaegglbbocaaGreatCtRf
import Derived.Test.YtghpaegglbbocaaGreatCtMr
set_option linter.unusedSimpArgs false
set_option linter.unusedVariables false
namespace Go.Proofs.YtghpaegglbbocaaGreat
open Go.Sx
set_option maxRecDepth 100000
theorem OC (a:uq) (hs:aw a.msg.data):
 true=true/\aG IntKind.i64 (bW a.msg.data)/\(decide (100<bW a.msg.data)=true->true=true)/\(decide (100<bW a.msg.data)=false->true=true/\aw a.msg.data/\true=true/\
  aw a.msg.data/\(decide ((aB [] a.now a.key a.msg).code=0)&&(vW (aB [] a.now a.key a.msg).data (ByteArray.mk (Array.mk []))&&(tL (aB [] a.now a.key a.msg).k0 void&&(tL (aB
  [] a.now a.key a.msg).k1 void&&(tL (aB [] a.now a.key a.msg).k2 void&&true))&&true))&& !cz [] a.now a.key a.msg&&decide (bI [] a.now a.key a.msg=1)&&(decide ((aB [] a.now
  a.key a.msg).code=(aB [] a.now a.key a.msg).code)&&(vW (aB [] a.now a.key a.msg).data (aB [] a.now a.key a.msg).data&&(tL (aB [] a.now a.key a.msg).k0 (aB [] a.now a.key
  a.msg).k0&&(tL (aB [] a.now a.key a.msg).k1 (aB [] a.now a.key a.msg).k1&&(tL (aB [] a.now a.key a.msg).k2 (aB [] a.now a.key a.msg).k2&&true))&&true)))&& !cz [] a.now a.key
  a.msg&&decide (bI [] a.now a.key a.msg=bI [] a.now a.key a.msg)&&true)=true):=by
 have e:bI [] a.now a.key a.msg=1:=by unfold bI;rw[Yv (show aj ([]:List Sx.Obj)=0 from rfl)]
 have e1:aB [] a.now a.key a.msg=dg:=by unfold aB;rw[e];rfl
 have e2:cz [] a.now a.key a.msg=false:=by unfold cz;rw[e];rfl
 rw[e,e1,e2];exact⟨rfl,by unfold aw at hs;simp only[aG,bY,bW];omega,fun _=>rfl,fun _=>⟨rfl,hs,rfl,hs,rfl⟩⟩
theorem O6 (a:uq) (hs:aw a.msg.data):ai Tryz.prog 3 [rM a] [] (mG (.bo true)) (fun _ _=>False):=
 bp (inl:=(fun f=>f==10)) (ann:=(iz [(10,4,Tf 2)])) (ab qs ak) (aD Ni aC) (OC a hs) (by kernel_rfl)
theorem MF (l:List Sx.Obj) (x:List uq) (hx:∀i,i<aj x->aw (ah x i gY).msg.data):
 true=true/\True/\(fC l=false->true=true)/\(fC l=true->pF (asks x)/\(jh (asks x)=true->true=true)/\(jh (asks x)=false->(∃g,xf (aj x) g/\false=
  false/\0=g.fst/\l=l/\aj x=aj x/\(DM x=DM x)/\l=g.snd/\l=g.snd)/\∀(g:Int×List Sx.Obj),xf (aj x) g->(decide (g.fst<b9 (aj x))=true->(0<=g.fst/\g.fst<
  ↑(aj x))/\g.fst.toNat<aj x/\true=true/\g.snd=g.snd/\(aq g.snd/\aw (ah x g.fst.toNat gY).msg.data)/\(ky g.snd (ah x g.fst.toNat gY)=false->((!true|| !ev g.snd
  g.snd)=true->false=true)/\((!true|| !ev g.snd g.snd)=false->aG IntKind.i64 (g.fst+1)/\∃g',xf (aj x) g'/\yQ (aj x) g'<yQ (aj x) g/\false=false/\g.fst+1=
  g'.fst/\l=l/\aj x=aj x/\(DM x=DM x)/\g.snd=g'.snd/\g.snd=g'.snd))/\(ky g.snd (ah x g.fst.toNat gY)=true->((!true|| !ev (fa g.snd (ah x g.fst.toNat gY))
  (fa g.snd (ah x g.fst.toNat gY)))=true->false=true)/\((!true|| !ev (fa g.snd (ah x g.fst.toNat gY)) (fa g.snd (ah x g.fst.toNat gY)))=false->aG IntKind.i64
  (g.fst+1)/\∃g',xf (aj x) g'/\yQ (aj x) g'<yQ (aj x) g/\false=false/\g.fst+1=g'.fst/\l=l/\aj x=aj x/\(DM x=DM x)/\fa g.snd (ah x g.fst.toNat gY)=
  g'.snd/\fa g.snd (ah x g.fst.toNat gY)=g'.snd)))/\(decide (g.fst<b9 (aj x))=false->true=true))):=by
 have hq:pF (asks x):=⟨x,rfl,hx⟩;refine⟨rfl,trivial,fun _=>rfl,fun hm=>⟨hq,fun _=>rfl,fun hv=>⟨⟨(0,l),⟨by simp,by simp,(wC hm).1⟩,(by(repeat' apply And.intro)<;>rfl)⟩,fun g hg=>⟨fun hlt=>?_,fun _=>rfl⟩⟩⟩⟩
 obtain⟨g0,g1,g2⟩:=hg;have hlt:g.1<(aj x:Int):=Ys hlt;have hlen:¬30<(aj x:Int):=C2 hv;have hin:aG IntKind.i64 (g.1+1):=by simp only[aG,bY];omega
 have hs:=hx g.1.toNat (by omega)
 have g3:aq (fa g.2 (ah x g.1.toNat gY)):=Jp g2
 refine⟨⟨g0,hlt⟩,by omega,rfl,rfl,⟨g2,hs⟩,fun hc=>⟨fun h=>?_,fun _=>⟨hin,(g.1+1,g.2),⟨by simp only;omega,by simp only;omega,g2⟩,by unfold yQ;simp only;omega,(by(repeat' apply And.intro)<;>rfl)⟩⟩,fun hc=>⟨fun h=>?_,fun _=>⟨hin,(g.1+1,fa g.2 (ah x g.1.toNat gY)),⟨by simp only;omega,by simp only;omega,g3⟩,by unfold yQ;simp only;omega,(by(repeat' apply And.intro)<;>rfl)⟩⟩⟩
 ·rw[iq]at h;simp at h
 ·rw[iq]at h;simp at h
theorem Kg (l:List Sx.Obj) (x:List uq) (hx:∀i,i<aj x->aw (ah x i gY).msg.data):ai Tryz.prog 5 [.sa 0,.sa 1] [.ro (.arr none 163 (.ob l)),.ro (.arr none 27 (asks x))] (mG (.bo true)) (fun _ _=>False):=
 bp (inl:=bn) (ann:=(iz [(5,5,Xw [1,4,5] (fun(g:Int×List Sx.Obj)=> [(6,.it .i64 g.1)]) 0 163 (fun g=> .ob g.2) (fun g=> [(2,.store tS eS g.2)]) (xf (aj x)) (yQ (aj x)))])) (ab wK (ab qs (ab Gz ak))) (aD wj (aD wa aC)) (MF l x hx) (by kernel_rfl)
theorem Oj (l:List Sx.Obj) (x:List uq) (hx:∀i,i<aj x->aw (ah x i gY).msg.data):
 true=true/\True/\(fC l=false->true=true)/\(fC l=true->pF (asks x)/\(jh (asks x)=true->true=true)/\(jh (asks x)=false->(∃g,C5 (aj x) g/\false=
  false/\0=g/\l=l/\aj x=aj x/\(DM x=DM x)/\l=l)/\∀(g:Int),C5 (aj x) g->(decide (g<b9 (aj x))=true->true=true/\True/\(fC l=false->(0<=g/\g< ↑(aj x))
  /\g.toNat<aj x/\true=true/\False)/\(fC l=true->(0<=g/\g< ↑(aj x))/\g.toNat<aj x/\true=true/\l=l/\(aq l/\aw (ah x g.toNat gY).msg.data)/\(ky l (ah x
  g.toNat gY)=false->((!true|| !ev l l)=true->false=true)/\((!true|| !ev l l)=false->aG IntKind.i64 (g+1)/\∃g',C5 (aj x) g'/\(b9 (aj x)-g').toNat<(b9 (aj x)
  -g).toNat/\false=false/\g+1=g'/\l=l/\aj x=aj x/\(DM x=DM x)/\l=l))/\(ky l (ah x g.toNat gY)=true->((!true|| !ev (fa l (ah x g.toNat gY)) (fa l
  (ah x g.toNat gY)))=true->false=true)/\((!true|| !ev (fa l (ah x g.toNat gY)) (fa l (ah x g.toNat gY)))=false->aG IntKind.i64 (g+1)/\∃g',C5 (aj x) g'/\
  (b9 (aj x)-g').toNat<(b9 (aj x)-g).toNat/\false=false/\g+1=g'/\l=l/\aj x=aj x/\(DM x=DM x)/\l=l))))/\(decide (g<b9 (aj x))=false->true=true))):=by
 have hq:pF (asks x):=⟨x,rfl,hx⟩;refine⟨rfl,trivial,fun _=>rfl,fun hm=>⟨hq,fun _=>rfl,fun hv=>⟨⟨0,⟨by omega,by omega⟩,(by(repeat' apply And.intro)<;>rfl)⟩,fun g hg=>⟨fun hlt=>?_,fun _=>rfl⟩⟩⟩⟩
 obtain⟨g0,g1⟩:=hg;have hlt:g<(aj x:Int):=Ys hlt;have hlen:¬30<(aj x:Int):=C2 hv;have hin:aG IntKind.i64 (g+1):=by simp only[aG,bY];omega
 have hs:=hx g.toNat (by omega)
 have hL:=(wC hm).1;refine⟨rfl,trivial,fun h=>by rw[hm]at h;simp at h,fun _=>⟨⟨g0,hlt⟩,by omega,rfl,rfl,⟨hL,hs⟩,fun hc=>⟨fun h=>?_,fun _=>⟨hin,g+1,⟨by omega,by omega⟩,by unfold b9;omega,(by(repeat' apply And.intro)<;>rfl)⟩⟩,fun hc=>⟨fun h=>?_,fun _=>⟨hin,g+1,⟨by omega,by omega⟩,by unfold b9;omega,(by(repeat' apply And.intro)<;>rfl)⟩⟩⟩⟩
 ·rw[iq]at h;simp at h
 ·rw[iq]at h;simp at h
theorem PJ (l:List Sx.Obj) (x:List uq) (hx:∀i,i<aj x->aw (ah x i gY).msg.data):ai Tryz.prog 6 [.sa 0,.sa 1] [.ro (.arr none 163 (.ob l)),.ro (.arr none 27 (asks x))] (mG (.bo true)) (fun _ _=>False):=
 bp (inl:=bn) (ann:=(iz [(6,4,Ra [0,1,4] (fun g=> [(5,.it .i64 g)]) (C5 (aj x)) (b9 (aj x)))])) (ab wK (ab qs (ab Gz ak))) (aD wj (aD wa aC)) (Oj l x hx) (by kernel_rfl)
end Go.Proofs.YtghpaegglbbocaaGreat
