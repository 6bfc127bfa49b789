import Derived.Test.YtghpaegglbbocaaGreatCtRf
import Derived.Test.YtghpaegglbbocaaGreatCtMr
set_option linter.unusedSimpArgs false
set_option linter.unusedVariables false
namespace Go.Proofs.YtghpaegglbbocaaGreat
open Go.Sx
set_option maxRecDepth 100000
theorem Qp (a:sJ) (hs:aw a.msg.data):
 true=true/\aG IntKind.i64 (bW a.msg.data)/\(decide (100<bW a.msg.data)=true->true=true)/\(decide (100<bW a.msg.data)=false->true=true/\aw a.msg.data/\true=true/\
  aw a.msg.data/\(decide ((aB [] a.now a.key a.msg).code=0)&&(vP (aB [] a.now a.key a.msg).data (ByteArray.mk (Array.mk []))&&(tE (aB [] a.now a.key a.msg).k0 void&&(tE (aB
  [] a.now a.key a.msg).k1 void&&(tE (aB [] a.now a.key a.msg).k2 void&&true))&&true))&& !cA [] a.now a.key a.msg&&decide (bI [] a.now a.key a.msg=1)&&(decide ((aB [] a.now
  a.key a.msg).code=(aB [] a.now a.key a.msg).code)&&(vP (aB [] a.now a.key a.msg).data (aB [] a.now a.key a.msg).data&&(tE (aB [] a.now a.key a.msg).k0 (aB [] a.now a.key
  a.msg).k0&&(tE (aB [] a.now a.key a.msg).k1 (aB [] a.now a.key a.msg).k1&&(tE (aB [] a.now a.key a.msg).k2 (aB [] a.now a.key a.msg).k2&&true))&&true)))&& !cA [] a.now a.key
  a.msg&&decide (bI [] a.now a.key a.msg=bI [] a.now a.key a.msg)&&true)=true):=by
 have e:bI [] a.now a.key a.msg=1:=by unfold bI;rw[Yq (show aj ([]:List Sx.Obj)=0 from rfl)]
 have e1:aB [] a.now a.key a.msg=dg:=by unfold aB;rw[e];rfl
 have e2:cA [] a.now a.key a.msg=false:=by unfold cA;rw[e];rfl
 rw[e,e1,e2];exact⟨rfl,by unfold aw at hs;simp only[aG,bY,bW];omega,fun _=>rfl,fun _=>⟨rfl,hs,rfl,hs,rfl⟩⟩
theorem PL (a:sJ) (hs:aw a.msg.data):ai Tryz.prog 3 [rQ a] [] (mn (.bo true)) (fun _ _=>False):=
 bn (inl:=(fun f=>f==10)) (ann:=(iy [(10,4,SZ 2)])) (ab qd ak) (aD Lb aC) (Qp a hs) (by kernel_rfl)
theorem Ml (l:List Sx.Obj) (x:List sJ) (hx:∀i,i<aj x->aw (ah x i g8).msg.data):
 true=true/\True/\(fA l=false->true=true)/\(fA l=true->pR (asks x)/\(jg (asks x)=true->true=true)/\(jg (asks x)=false->(∃g,ym (aj x) g/\false=
  false/\0=g.fst/\l=l/\aj x=aj x/\(DF x=DF x)/\l=g.snd/\l=g.snd)/\∀(g:Int×List Sx.Obj),ym (aj x) g->(decide (g.fst<b9 (aj x))=true->(0<=g.fst/\g.fst<
  ↑(aj x))/\g.fst.toNat<aj x/\true=true/\g.snd=g.snd/\(aq g.snd/\aw (ah x g.fst.toNat g8).msg.data)/\(kC g.snd (ah x g.fst.toNat g8)=false->((!true|| !eu g.snd
  g.snd)=true->false=true)/\((!true|| !eu g.snd g.snd)=false->aG IntKind.i64 (g.fst+1)/\∃g',ym (aj x) g'/\yM (aj x) g'<yM (aj x) g/\false=false/\g.fst+1=
  g'.fst/\l=l/\aj x=aj x/\(DF x=DF x)/\g.snd=g'.snd/\g.snd=g'.snd))/\(kC g.snd (ah x g.fst.toNat g8)=true->((!true|| !eu (fa g.snd (ah x g.fst.toNat g8))
  (fa g.snd (ah x g.fst.toNat g8)))=true->false=true)/\((!true|| !eu (fa g.snd (ah x g.fst.toNat g8)) (fa g.snd (ah x g.fst.toNat g8)))=false->aG IntKind.i64
  (g.fst+1)/\∃g',ym (aj x) g'/\yM (aj x) g'<yM (aj x) g/\false=false/\g.fst+1=g'.fst/\l=l/\aj x=aj x/\(DF x=DF x)/\fa g.snd (ah x g.fst.toNat g8)=
  g'.snd/\fa g.snd (ah x g.fst.toNat g8)=g'.snd)))/\(decide (g.fst<b9 (aj x))=false->true=true))):=by
 have hq:pR (asks x):=⟨x,rfl,hx⟩;refine⟨rfl,trivial,fun _=>rfl,fun hm=>⟨hq,fun _=>rfl,fun hv=>⟨⟨(0,l),⟨by simp,by simp,(wF hm).1⟩,(by(repeat' apply And.intro)<;>rfl)⟩,fun g hg=>⟨fun hlt=>?_,fun _=>rfl⟩⟩⟩⟩
 obtain⟨g0,g1,g2⟩:=hg;have hlt:g.1<(aj x:Int):=Yn hlt;have hlen:¬30<(aj x:Int):=CE hv;have hin:aG IntKind.i64 (g.1+1):=by simp only[aG,bY];omega
 have hs:=hx g.1.toNat (by omega)
 have g3:aq (fa g.2 (ah x g.1.toNat g8)):=M9 g2
 refine⟨⟨g0,hlt⟩,by omega,rfl,rfl,⟨g2,hs⟩,fun hc=>⟨fun h=>?_,fun _=>⟨hin,(g.1+1,g.2),⟨by simp only;omega,by simp only;omega,g2⟩,by unfold yM;simp only;omega,(by(repeat' apply And.intro)<;>rfl)⟩⟩,fun hc=>⟨fun h=>?_,fun _=>⟨hin,(g.1+1,fa g.2 (ah x g.1.toNat g8)),⟨by simp only;omega,by simp only;omega,g3⟩,by unfold yM;simp only;omega,(by(repeat' apply And.intro)<;>rfl)⟩⟩⟩
 ·rw[ir]at h;simp at h
 ·rw[ir]at h;simp at h
theorem Mx (l:List Sx.Obj) (x:List sJ) (hx:∀i,i<aj x->aw (ah x i g8).msg.data):ai Tryz.prog 5 [.sa 0,.sa 1] [.ro (.arr none 163 (.ob l)),.ro (.arr none 27 (asks x))] (mn (.bo true)) (fun _ _=>False):=
 bn (inl:=bp) (ann:=(iy [(5,5,Xj [1,4,5] (fun(g:Int×List Sx.Obj)=> [(6,.it .i64 g.1)]) 0 163 (fun g=> .ob g.2) (fun g=> [(2,.store tS eS g.2)]) (ym (aj x)) (yM (aj x)))])) (ab wP (ab qd (ab FV ak))) (aD wN (aD we aC)) (Ml l x hx) (by kernel_rfl)
theorem Q4 (l:List Sx.Obj) (x:List sJ) (hx:∀i,i<aj x->aw (ah x i g8).msg.data):
 true=true/\True/\(fA l=false->true=true)/\(fA l=true->pR (asks x)/\(jg (asks x)=true->true=true)/\(jg (asks x)=false->(∃g,Ca (aj x) g/\false=
  false/\0=g/\l=l/\aj x=aj x/\(DF x=DF x)/\l=l)/\∀(g:Int),Ca (aj x) g->(decide (g<b9 (aj x))=true->true=true/\True/\(fA l=false->(0<=g/\g< ↑(aj x))
  /\g.toNat<aj x/\true=true/\False)/\(fA l=true->(0<=g/\g< ↑(aj x))/\g.toNat<aj x/\true=true/\l=l/\(aq l/\aw (ah x g.toNat g8).msg.data)/\(kC l (ah x
  g.toNat g8)=false->((!true|| !eu l l)=true->false=true)/\((!true|| !eu l l)=false->aG IntKind.i64 (g+1)/\∃g',Ca (aj x) g'/\(b9 (aj x)-g').toNat<(b9 (aj x)
  -g).toNat/\false=false/\g+1=g'/\l=l/\aj x=aj x/\(DF x=DF x)/\l=l))/\(kC l (ah x g.toNat g8)=true->((!true|| !eu (fa l (ah x g.toNat g8)) (fa l
  (ah x g.toNat g8)))=true->false=true)/\((!true|| !eu (fa l (ah x g.toNat g8)) (fa l (ah x g.toNat g8)))=false->aG IntKind.i64 (g+1)/\∃g',Ca (aj x) g'/\
  (b9 (aj x)-g').toNat<(b9 (aj x)-g).toNat/\false=false/\g+1=g'/\l=l/\aj x=aj x/\(DF x=DF x)/\l=l))))/\(decide (g<b9 (aj x))=false->true=true))):=by
 have hq:pR (asks x):=⟨x,rfl,hx⟩;refine⟨rfl,trivial,fun _=>rfl,fun hm=>⟨hq,fun _=>rfl,fun hv=>⟨⟨0,⟨by omega,by omega⟩,(by(repeat' apply And.intro)<;>rfl)⟩,fun g hg=>⟨fun hlt=>?_,fun _=>rfl⟩⟩⟩⟩
 obtain⟨g0,g1⟩:=hg;have hlt:g<(aj x:Int):=Yn hlt;have hlen:¬30<(aj x:Int):=CE hv;have hin:aG IntKind.i64 (g+1):=by simp only[aG,bY];omega
 have hs:=hx g.toNat (by omega)
 have hL:=(wF hm).1;refine⟨rfl,trivial,fun h=>by rw[hm]at h;simp at h,fun _=>⟨⟨g0,hlt⟩,by omega,rfl,rfl,⟨hL,hs⟩,fun hc=>⟨fun h=>?_,fun _=>⟨hin,g+1,⟨by omega,by omega⟩,by unfold b9;omega,(by(repeat' apply And.intro)<;>rfl)⟩⟩,fun hc=>⟨fun h=>?_,fun _=>⟨hin,g+1,⟨by omega,by omega⟩,by unfold b9;omega,(by(repeat' apply And.intro)<;>rfl)⟩⟩⟩⟩
 ·rw[ir]at h;simp at h
 ·rw[ir]at h;simp at h
theorem Rk (l:List Sx.Obj) (x:List sJ) (hx:∀i,i<aj x->aw (ah x i g8).msg.data):ai Tryz.prog 6 [.sa 0,.sa 1] [.ro (.arr none 163 (.ob l)),.ro (.arr none 27 (asks x))] (mn (.bo true)) (fun _ _=>False):=
 bn (inl:=bp) (ann:=(iy [(6,4,Og [0,1,4] (fun g=> [(5,.it .i64 g)]) (Ca (aj x)) (b9 (aj x)))])) (ab wP (ab qd (ab FV ak))) (aD wN (aD we aC)) (Q4 l x hx) (by kernel_rfl)
end Go.Proofs.YtghpaegglbbocaaGreat
