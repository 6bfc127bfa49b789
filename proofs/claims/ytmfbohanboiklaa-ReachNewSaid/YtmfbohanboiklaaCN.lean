import Derived.Test.YtmfbohanboiklaaKS
set_option linter.unusedSimpArgs false
set_option linter.unusedVariables false
namespace Go.Proofs.Ytmfbohanboiklaa
open Go.Sx
set_option maxRecDepth 100000
theorem Ed (k:Key):
 ((b6 []|| !decide (aW k=0))=true->void=bp [] k)/\
   ((b6 []|| !decide (aW k=0))=false->
     ((aN k&& !ew [] k)=true->void=bp [] k)/\((aN k&& !ew [] k)=false->k=bp [] k)):=by
 exact xS [] k
theorem D2 (L:List Sx.Obj) (k:Key):
 ((b6 L|| !decide (aW k=0))=true->void=bp L k)/\
   ((b6 L|| !decide (aW k=0))=false->
     ((aN k&& !ew L k)=true->void=bp L k)/\((aN k&& !ew L k)=false->k=bp L k)):=by
 exact xS L k
theorem Hb:bV Try.prog 65 JJ:=
 qP fL (fun _ _=>rfl) (fun x _=>aL (inl:=bz) (ann:=bW) (an mr (an re (an hJ (an wu aB)))) (Ed x) (by kernel_rfl)) (fun L x _ _ _=>aL (inl:=bz) (ann:=bW) (an mr (an re (an hJ (an wu aB)))) (D2 L x) (by kernel_rfl)) fun _=>rfl
theorem CW (l:List Sx.Obj) (k:Key):
 ((decide (aG (aa l)=0)|| !decide (aW k=0)||decide (0<=aE k)&& !ew l k)=true->
   void=bp l k)/\
   ((decide (aG (aa l)=0)|| !decide (aW k=0)||decide (0<=aE k)&& !ew l k)=false->
     k=bp l k):=by
 exact BT l k
theorem wE:bV Try.prog 29 HI:=AL fL (fun _ _=>rfl) (fun l k _ _ _=>aL (inl:=bz) (ann:=bW) (an nL (an jO (an zF aB))) (CW l k) (by kernel_rfl)) fun _=>rfl
end Go.Proofs.Ytmfbohanboiklaa
namespace Go.Sx
def MQ (nid:Nat):V:= .mp nid
def Mx (nid:Nat):List ai:= [.mp .i64 [2,3,1,8] [.fn 89 [.lp (nid+1) 0],.fn 89 [.lp (nid+1+1) 0],.fn 87 [],.fn 87 []],
 .blk 24 (.ci .i64 3),.blk 24 (.ci .i64 1)]
end Go.Sx
namespace Go.Proofs.Ytmfbohanboiklaa
open Go.Sx
set_option maxRecDepth 100000
theorem GN:
 true=true/\
 true=true/\
  ∀(nid:Nat),some (MQ nid)=some (MQ nid)/\some (Mx nid)=some (Mx nid):=by
 exact⟨rfl,rfl,fun nid=>⟨rfl,rfl⟩⟩
theorem Gq:bV Try.prog 76 (EB MQ Mx):=Fb (π:= [0,1,2]) (by decide) (fun _=>rfl) (cT (inl:=(fun f=>f==88)) (ann:=bW) aB cP GN (by kernel_rfl))
theorem EH (r m:Int) (hr:bG .i64 r) (hm0:bG .i64 m):
 (∃g,pO g/\r=r/\m=m/\0=cL r m g/\1=g)/\
  ∀(g:Int),
   pO g->
    (decide (g<=4)=true->
      (z8 g/\aU IntKind.i64 (r.tdiv g))/\
       (z8 2/\aU IntKind.i64 ((r.tdiv g).tmod 2))/\
        ((!decide ((r.tdiv g).tmod 2=1))=true->z8 g/\aU IntKind.i64 (m.tdiv g))/\
          ((!decide ((r.tdiv g).tmod 2=1))=true->z8 2/\aU IntKind.i64 ((m.tdiv g).tmod 2))/\
            ((decide ((r.tdiv g).tmod 2=1)||decide ((m.tdiv g).tmod 2=1))=true->
              aU IntKind.i64 (cL r m g+g)/\
               aU IntKind.i64 (g*2)/\
                ∃g',
                 pO g'/\
                  (8-g').toNat<(8-g).toNat/\
                   r=r/\m=m/\cL r m g+g=cL r m g'/\g*2=g')/\
              ((decide ((r.tdiv g).tmod 2=1)||decide ((m.tdiv g).tmod 2=1))=false->
                aU IntKind.i64 (g*2)/\
                 ∃g',
                  pO g'/\
                   (8-g').toNat<(8-g).toNat/\
                    r=r/\m=m/\cL r m g=cL r m g'/\g*2=g'))/\
     (decide (g<=4)=false->cL r m g=gE r m):=by
 refine⟨⟨1,.inl rfl,rfl,rfl,by simp[cL],rfl⟩,fun g hg=>⟨fun hlt=>?_,fun hge=>?_⟩⟩
 ·have hlt:=N7 hlt;have hne:z8 g:=by unfold z8;rcases hg with rfl|rfl|rfl|rfl<;>omega
  have h2:z8 2:=by unfold z8;omega
  have hs:=CJ (r:=r) (m:=m) (g:=g)
  have hn:∃g',pO g'/\(8-g').toNat<(8-g).toNat/\g*2=g':=by
   rcases hg with rfl|rfl|rfl|rfl
   ·exact⟨2,.inr (.inl rfl),by omega,rfl⟩
   ·exact⟨4,.inr (.inr (.inl rfl)),by omega,rfl⟩
   ·exact⟨8,.inr (.inr (.inr rfl)),by omega,rfl⟩
   ·omega
  obtain⟨g',hg1,hg2,rfl⟩:=hn;have hm:aU IntKind.i64 (g*2):=by simp only[aU,bG];rcases hg with rfl|rfl|rfl|rfl<;>omega
  refine⟨⟨hne,vr hr hg⟩,⟨h2,sk _⟩,fun _=>⟨hne,vr hm0 hg⟩,fun _=>⟨h2,sk _⟩,fun h=>⟨by simp only[aU,bG];omega,hm,_,hg1,hg2,rfl,rfl,?_,rfl⟩,fun h=>⟨hm,_,hg1,hg2,rfl,rfl,?_,rfl⟩⟩
  ·rcases hg with rfl|rfl|rfl|rfl
   ·simp[cL,ff]at h⊢;grind
   ·simp[cL,ff]at h⊢;grind
   ·simp[cL,ff]at h⊢;grind
   ·omega
  ·rcases hg with rfl|rfl|rfl|rfl
   ·simp[cL,ff,h]at h⊢ <;>grind
   ·simp[cL,ff,h]at h⊢ <;>grind
   ·simp[cL,ff,h]at h⊢ <;>grind
   ·omega
 ·have hge:=N6 hge;rcases hg with rfl|rfl|rfl|rfl<;>first|rfl|omega
theorem wS:bV Try.prog 23 FZ:=
 lh (fR .i64) (fR .i64) (fun _ _=>rfl) fun r m hr hm=>aL (inl:=bz) (ann:=(jM [(23,3,FL [0,1,4] (fun g=> [(5,.it .i64 (cL r m g)),(6,.it .i64 g)]) pO 8)])) aB (EH r m hr hm) (by kernel_rfl)
theorem E0 (k:Key):
 (decide (k.kind=2)=true->
   {kind:=k.kind,oid:=k.oid,count:=k.count,call:=k.call,rights:=gE k.rights 3,
    value:=k.value}=
    eF k)/\
  (decide (k.kind=2)=false->
   (decide (k.kind=3)=true->
     {kind:=k.kind,oid:=k.oid,count:=k.count,call:=k.call,rights:=1,value:=k.value}=
      eF k)/\
    (decide (k.kind=3)=false->
     (decide (k.kind=1)=true->
       (decide (k.kind=1)=true->k=eF k)/\(decide (k.kind=1)=false->void=eF k))/\
      (decide (k.kind=1)=false->
       (decide (k.kind=8)=true->k=eF k)/\(decide (k.kind=8)=false->void=eF k)))):=by
 unfold eF tQ;grind
theorem CA:bV Try.prog 11 Gk:=
 km fL (fun _=>rfl) fun k hk=>aL (inl:=bz) (ann:=bW) (an wS aB) (E0 k) (by kernel_rfl)
theorem Ca (k:Key):
 ((!decide (aW k=0))=true->void=cE k/\2=aW k)/\
   ((!decide (aW k=0))=false->
     ((decide (k.kind=2)||(decide (k.kind=3)||(decide (k.kind=1)||decide (k.kind=8))))=true->
       (decide (k.kind=2)=true->
         true=true/\
          {kind:=k.kind,oid:=k.oid,count:=k.count,call:=k.call,
             rights:=cG BinOp.or IntKind.i64 k.rights 3,value:=k.value}=
           cE k/\
           0=aW k)/\
        (decide (k.kind=2)=false->
         (decide (k.kind=3)=true->
           true=true/\
            {kind:=k.kind,oid:=k.oid,count:=k.count,call:=k.call,
               rights:=cG BinOp.or IntKind.i64 k.rights 1,value:=k.value}=
             cE k/\
             0=aW k)/\
          (decide (k.kind=3)=false->
           (decide (k.kind=1)=true->true=true/\k=cE k/\0=aW k)/\
            (decide (k.kind=1)=false->
             (decide (k.kind=8)=true->true=true/\k=cE k/\0=aW k)/\
              (decide (k.kind=8)=false->False)))))/\
       ((decide (k.kind=2)||(decide (k.kind=3)||(decide (k.kind=1)||decide (k.kind=8))))=false->
         void=cE k/\0=aW k)):=by
 unfold cE aW;cases hok:au k
 ·simp
 have hr:=kq hok;have o3:k.kind=2->cG BinOp.or IntKind.i64 k.rights 3=gE k.rights 3:=fun e=>CG hr.1 (by rw[e]at hr;exact hr.2)
 have o1:k.kind=3->cG BinOp.or IntKind.i64 k.rights 1=1:=fun e=>Ec hr.1 (by rw[e]at hr;exact hr.2)
 unfold eF tQ;grind
theorem Bn:bV Try.prog 66 EY:=
 km fL (fun _=>rfl) fun k hk=>cT (inl:=(fun f=>f==89||f==87)) (ann:=bW) (an re (an Gq aB)) cP (Ca k) (by kernel_rfl)
end Go.Proofs.Ytmfbohanboiklaa
