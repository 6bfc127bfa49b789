import Derived.Test.YtmfbohanboiklaaKS
set_option linter.unusedSimpArgs false
set_option linter.unusedVariables false
namespace Go.Proofs.Ytmfbohanboiklaa
open Go.Sx
set_option maxRecDepth 100000
theorem E5 (k:Key):
 ((bQ []|| !decide (aY k=0))=true->void=bc [] k)/\
   ((bQ []|| !decide (aY k=0))=false->
     ((aW k&& !ep [] k)=true->void=bc [] k)/\((aW k&& !ep [] k)=false->k=bc [] k)):=by
 exact wo [] k
theorem E4 (L:List Sx.Obj) (k:Key):
 ((bQ L|| !decide (aY k=0))=true->void=bc L k)/\
   ((bQ L|| !decide (aY k=0))=false->
     ((aW k&& !ep L k)=true->void=bc L k)/\((aW k&& !ep L k)=false->k=bc L k)):=by
 exact wo L k
theorem Fk:bW Try.prog 65 IY:=
 qx ia (fun _ _=>rfl) (fun x _=>aL (inl:=bw) (ann:=bY) (an mb (an qK (an jz (an xP az)))) (E5 x) (by kernel_rfl)) (fun L x _ _ _=>aL (inl:=bw) (ann:=bY) (an mb (an qK (an jz (an xP az)))) (E4 L x) (by kernel_rfl)) fun _=>rfl
theorem EC (l:List Sx.Obj) (k:Key):
 ((decide (aK (aa l)=0)|| !decide (aY k=0)||decide (0<=aD k)&& !ep l k)=true->
   void=bc l k)/\
   ((decide (aK (aa l)=0)|| !decide (aY k=0)||decide (0<=aD k)&& !ep l k)=false->
     k=bc l k):=by
 exact BX l k
theorem xV:bW Try.prog 29 GK:=zC ia (fun _ _=>rfl) (fun l k _ _ _=>aL (inl:=bw) (ann:=bY) (an oy (an jf (an za az))) (EC l k) (by kernel_rfl)) fun _=>rfl
end Go.Proofs.Ytmfbohanboiklaa
namespace Go.Sx
def Mx (nid:Nat):V:= .mp nid
def L8 (nid:Nat):List ah:= [.mp .i64 [2,3,1,8] [.fn 89 [.lp (nid+1) 0],.fn 89 [.lp (nid+1+1) 0],.fn 87 [],.fn 87 []],
 .blk 24 (.ci .i64 3),.blk 24 (.ci .i64 1)]
end Go.Sx
namespace Go.Proofs.Ytmfbohanboiklaa
open Go.Sx
set_option maxRecDepth 100000
theorem Hl:
 true=true/\
 true=true/\
  ∀(nid:Nat),some (Mx nid)=some (Mx nid)/\some (L8 nid)=some (L8 nid):=by
 exact⟨rfl,rfl,fun nid=>⟨rfl,rfl⟩⟩
theorem Gd:bW Try.prog 76 (EF Mx L8):=CK (π:= [0,1,2]) (by decide) (fun _=>rfl) (cK (inl:=(fun f=>f==88)) (ann:=bY) az cM Hl (by kernel_rfl))
theorem CL (r m:Int) (hr:bC .i64 r) (hm0:bC .i64 m):
 (∃g,pE g/\r=r/\m=m/\0=cr r m g/\1=g)/\
  ∀(g:Int),
   pE g->
    (decide (g<=4)=true->
      (sX g/\aP IntKind.i64 (r.tdiv g))/\
       (sX 2/\aP IntKind.i64 ((r.tdiv g).tmod 2))/\
        ((!decide ((r.tdiv g).tmod 2=1))=true->sX g/\aP IntKind.i64 (m.tdiv g))/\
          ((!decide ((r.tdiv g).tmod 2=1))=true->sX 2/\aP IntKind.i64 ((m.tdiv g).tmod 2))/\
            ((decide ((r.tdiv g).tmod 2=1)||decide ((m.tdiv g).tmod 2=1))=true->
              aP IntKind.i64 (cr r m g+g)/\
               aP IntKind.i64 (g*2)/\
                ∃g',
                 pE g'/\
                  (8-g').toNat<(8-g).toNat/\
                   r=r/\m=m/\cr r m g+g=cr r m g'/\g*2=g')/\
              ((decide ((r.tdiv g).tmod 2=1)||decide ((m.tdiv g).tmod 2=1))=false->
                aP IntKind.i64 (g*2)/\
                 ∃g',
                  pE g'/\
                   (8-g').toNat<(8-g).toNat/\
                    r=r/\m=m/\cr r m g=cr r m g'/\g*2=g'))/\
     (decide (g<=4)=false->cr r m g=gr r m):=by
 refine⟨⟨1,.inl rfl,rfl,rfl,by simp[cr],rfl⟩,fun g hg=>⟨fun hlt=>?_,fun hge=>?_⟩⟩
 ·have hlt:=Nc hlt;have hne:sX g:=by unfold sX;rcases hg with rfl|rfl|rfl|rfl<;>omega
  have h2:sX 2:=by unfold sX;omega
  have hs:=Dc (r:=r) (m:=m) (g:=g)
  have hn:∃g',pE g'/\(8-g').toNat<(8-g).toNat/\g*2=g':=by
   rcases hg with rfl|rfl|rfl|rfl
   ·exact⟨2,.inr (.inl rfl),by omega,rfl⟩
   ·exact⟨4,.inr (.inr (.inl rfl)),by omega,rfl⟩
   ·exact⟨8,.inr (.inr (.inr rfl)),by omega,rfl⟩
   ·omega
  obtain⟨g',hg1,hg2,rfl⟩:=hn;have hm:aP IntKind.i64 (g*2):=by simp only[aP,bC];rcases hg with rfl|rfl|rfl|rfl<;>omega
  refine⟨⟨hne,uT hr hg⟩,⟨h2,rv _⟩,fun _=>⟨hne,uT hm0 hg⟩,fun _=>⟨h2,rv _⟩,fun h=>⟨by simp only[aP,bC];omega,hm,_,hg1,hg2,rfl,rfl,?_,rfl⟩,fun h=>⟨hm,_,hg1,hg2,rfl,rfl,?_,rfl⟩⟩
  ·rcases hg with rfl|rfl|rfl|rfl
   ·simp[cr,ey]at h⊢;grind
   ·simp[cr,ey]at h⊢;grind
   ·simp[cr,ey]at h⊢;grind
   ·omega
  ·rcases hg with rfl|rfl|rfl|rfl
   ·simp[cr,ey,h]at h⊢ <;>grind
   ·simp[cr,ey,h]at h⊢ <;>grind
   ·simp[cr,ey,h]at h⊢ <;>grind
   ·omega
 ·have hge:=Nb hge;rcases hg with rfl|rfl|rfl|rfl<;>first|rfl|omega
theorem DV:bW Try.prog 23 GS:=
 oU (fD .i64) (fD .i64) (fun _ _=>rfl) fun r m hr hm=>aL (inl:=bw) (ann:=(kg [(23,3,Jw [0,1,4] (fun g=> [(5,.it .i64 (cr r m g)),(6,.it .i64 g)]) pE 8)])) az (CL r m hr hm) (by kernel_rfl)
theorem CW (k:Key):
 (decide (k.kind=2)=true->
   {kind:=k.kind,oid:=k.oid,count:=k.count,call:=k.call,rights:=gr k.rights 3,
    value:=k.value}=
    cA k)/\
  (decide (k.kind=2)=false->
   (decide (k.kind=3)=true->
     {kind:=k.kind,oid:=k.oid,count:=k.count,call:=k.call,rights:=1,value:=k.value}=
      cA k)/\
    (decide (k.kind=3)=false->
     (decide (k.kind=1)=true->
       (decide (k.kind=1)=true->k=cA k)/\(decide (k.kind=1)=false->void=cA k))/\
      (decide (k.kind=1)=false->
       (decide (k.kind=8)=true->k=cA k)/\(decide (k.kind=8)=false->void=cA k)))):=by
 unfold cA uM;grind
theorem wJ:bW Try.prog 11 Hc:=
 j6 ia (fun _=>rfl) fun k hk=>aL (inl:=bw) (ann:=bY) (an DV az) (CW k) (by kernel_rfl)
theorem BH (k:Key):
 ((!decide (aY k=0))=true->void=cz k/\2=aY k)/\
   ((!decide (aY k=0))=false->
     ((decide (k.kind=2)||(decide (k.kind=3)||(decide (k.kind=1)||decide (k.kind=8))))=true->
       (decide (k.kind=2)=true->
         true=true/\
          {kind:=k.kind,oid:=k.oid,count:=k.count,call:=k.call,
             rights:=b6 BinOp.or IntKind.i64 k.rights 3,value:=k.value}=
           cz k/\
           0=aY k)/\
        (decide (k.kind=2)=false->
         (decide (k.kind=3)=true->
           true=true/\
            {kind:=k.kind,oid:=k.oid,count:=k.count,call:=k.call,
               rights:=b6 BinOp.or IntKind.i64 k.rights 1,value:=k.value}=
             cz k/\
             0=aY k)/\
          (decide (k.kind=3)=false->
           (decide (k.kind=1)=true->true=true/\k=cz k/\0=aY k)/\
            (decide (k.kind=1)=false->
             (decide (k.kind=8)=true->true=true/\k=cz k/\0=aY k)/\
              (decide (k.kind=8)=false->False)))))/\
       ((decide (k.kind=2)||(decide (k.kind=3)||(decide (k.kind=1)||decide (k.kind=8))))=false->
         void=cz k/\0=aY k)):=by
 unfold cz aY;cases hok:aB k
 ·simp
 have hr:=nM hok;have o3:k.kind=2->b6 BinOp.or IntKind.i64 k.rights 3=gr k.rights 3:=fun e=>DN hr.1 (by rw[e]at hr;exact hr.2)
 have o1:k.kind=3->b6 BinOp.or IntKind.i64 k.rights 1=1:=fun e=>Eg hr.1 (by rw[e]at hr;exact hr.2)
 unfold cA uM;grind
theorem AX:bW Try.prog 66 En:=
 j6 ia (fun _=>rfl) fun k hk=>cK (inl:=(fun f=>f==89||f==87)) (ann:=bY) (an qK (an Gd az)) cM (BH k) (by kernel_rfl)
end Go.Proofs.Ytmfbohanboiklaa
