import Derived.Test.YtmfbohanboiklaaKS
set_option linter.unusedSimpArgs false
set_option linter.unusedVariables false
namespace Go.Proofs.Ytmfbohanboiklaa
open Go.Sx
set_option maxRecDepth 100000
theorem Ev (k:Key):
 ((bQ []|| !decide (aW k=0))=true->void=bd [] k)/\
   ((bQ []|| !decide (aW k=0))=false->
     ((aS k&& !ej [] k)=true->void=bd [] k)/\((aS k&& !ej [] k)=false->k=bd [] k)):=by
 exact xg [] k
theorem DX (L:List Sx.Obj) (k:Key):
 ((bQ L|| !decide (aW k=0))=true->void=bd L k)/\
   ((bQ L|| !decide (aW k=0))=false->
     ((aS k&& !ej L k)=true->void=bd L k)/\((aS k&& !ej L k)=false->k=bd L k)):=by
 exact xg L k
theorem GD:bW Try.prog 65 I7:=
 ql hJ (fun _ _=>rfl) (fun x _=>aK (inl:=bx) (ann:=bV) (an lZ (an qy (an jm (an vR az)))) (Ev x) (by kernel_rfl)) (fun L x _ _ _=>aK (inl:=bx) (ann:=bV) (an lZ (an qy (an jm (an vR az)))) (DX L x) (by kernel_rfl)) fun _=>rfl
theorem Dd (l:List Sx.Obj) (k:Key):
 ((decide (aZ (ae l)=0)|| !decide (aW k=0)||decide (0<=aC k)&& !ej l k)=true->
   void=bd l k)/\
   ((decide (aZ (ae l)=0)|| !decide (aW k=0)||decide (0<=aC k)&& !ej l k)=false->
     k=bd l k):=by
 exact AH l k
theorem wM:bW Try.prog 29 Fx:=zb hJ (fun _ _=>rfl) (fun l k _ _ _=>aK (inl:=bx) (ann:=bV) (an qk (an jc (an xQ az))) (Dd l k) (by kernel_rfl)) fun _=>rfl
end Go.Proofs.Ytmfbohanboiklaa
namespace Go.Sx
def K8 (nid:Nat):V:= .mp nid
def Lt (nid:Nat):List ah:= [.mp .i64 [2,3,1,8] [.fn 89 [.lp (nid+1) 0],.fn 89 [.lp (nid+1+1) 0],.fn 87 [],.fn 87 []],
 .blk 24 (.ci .i64 3),.blk 24 (.ci .i64 1)]
end Go.Sx
namespace Go.Proofs.Ytmfbohanboiklaa
open Go.Sx
set_option maxRecDepth 100000
theorem Gn:
 true=true/\
 true=true/\
  ∀(nid:Nat),some (K8 nid)=some (K8 nid)/\some (Lt nid)=some (Lt nid):=by
 exact⟨rfl,rfl,fun nid=>⟨rfl,rfl⟩⟩
theorem FP:bW Try.prog 76 (B8 K8 Lt):=Dz (π:= [0,1,2]) (by decide) (fun _=>rfl) (c8 (inl:=(fun f=>f==88)) (ann:=bV) az de Gn (by kernel_rfl))
theorem CA (r m:Int) (hr:bJ .i64 r) (hm0:bJ .i64 m):
 (∃g,oM g/\r=r/\m=m/\0=cB r m g/\1=g)/\
  ∀(g:Int),
   oM g->
    (decide (g<=4)=true->
      (yL g/\br IntKind.i64 (r.tdiv g))/\
       (yL 2/\br IntKind.i64 ((r.tdiv g).tmod 2))/\
        ((!decide ((r.tdiv g).tmod 2=1))=true->yL g/\br IntKind.i64 (m.tdiv g))/\
          ((!decide ((r.tdiv g).tmod 2=1))=true->yL 2/\br IntKind.i64 ((m.tdiv g).tmod 2))/\
            ((decide ((r.tdiv g).tmod 2=1)||decide ((m.tdiv g).tmod 2=1))=true->
              br IntKind.i64 (cB r m g+g)/\
               br IntKind.i64 (g*2)/\
                ∃g',
                 oM g'/\
                  (8-g').toNat<(8-g).toNat/\
                   r=r/\m=m/\cB r m g+g=cB r m g'/\g*2=g')/\
              ((decide ((r.tdiv g).tmod 2=1)||decide ((m.tdiv g).tmod 2=1))=false->
                br IntKind.i64 (g*2)/\
                 ∃g',
                  oM g'/\
                   (8-g').toNat<(8-g).toNat/\
                    r=r/\m=m/\cB r m g=cB r m g'/\g*2=g'))/\
     (decide (g<=4)=false->cB r m g=jI r m):=by
 refine⟨⟨1,.inl rfl,rfl,rfl,by simp[cB],rfl⟩,fun g hg=>⟨fun hlt=>?_,fun hge=>?_⟩⟩
 ·have hlt:=My hlt;have hne:yL g:=by unfold yL;rcases hg with rfl|rfl|rfl|rfl<;>omega
  have h2:yL 2:=by unfold yL;omega
  have hs:=B0 (r:=r) (m:=m) (g:=g)
  have hn:∃g',oM g'/\(8-g').toNat<(8-g).toNat/\g*2=g':=by
   rcases hg with rfl|rfl|rfl|rfl
   ·exact⟨2,.inr (.inl rfl),by omega,rfl⟩
   ·exact⟨4,.inr (.inr (.inl rfl)),by omega,rfl⟩
   ·exact⟨8,.inr (.inr (.inr rfl)),by omega,rfl⟩
   ·omega
  obtain⟨g',hg1,hg2,rfl⟩:=hn;have hm:br IntKind.i64 (g*2):=by simp only[br,bJ];rcases hg with rfl|rfl|rfl|rfl<;>omega
  refine⟨⟨hne,uG hr hg⟩,⟨h2,rG _⟩,fun _=>⟨hne,uG hm0 hg⟩,fun _=>⟨h2,rG _⟩,fun h=>⟨by simp only[br,bJ];omega,hm,_,hg1,hg2,rfl,rfl,?_,rfl⟩,fun h=>⟨hm,_,hg1,hg2,rfl,rfl,?_,rfl⟩⟩
  ·rcases hg with rfl|rfl|rfl|rfl
   ·simp[cB,eN]at h⊢;grind
   ·simp[cB,eN]at h⊢;grind
   ·simp[cB,eN]at h⊢;grind
   ·omega
  ·rcases hg with rfl|rfl|rfl|rfl
   ·simp[cB,eN,h]at h⊢ <;>grind
   ·simp[cB,eN,h]at h⊢ <;>grind
   ·simp[cB,eN,h]at h⊢ <;>grind
   ·omega
 ·have hge:=Mx hge;rcases hg with rfl|rfl|rfl|rfl<;>first|rfl|omega
theorem D9:bW Try.prog 23 GF:=
 pg (fy .i64) (fy .i64) (fun _ _=>rfl) fun r m hr hm=>aK (inl:=bx) (ann:=(kQ [(23,3,Ji [0,1,4] (fun g=> [(5,.it .i64 (cB r m g)),(6,.it .i64 g)]) oM 8)])) az (CA r m hr hm) (by kernel_rfl)
theorem CH (k:Key):
 (decide (k.kind=2)=true->
   {kind:=k.kind,oid:=k.oid,count:=k.count,call:=k.call,rights:=jI k.rights 3,
    value:=k.value}=
    eh k)/\
  (decide (k.kind=2)=false->
   (decide (k.kind=3)=true->
     {kind:=k.kind,oid:=k.oid,count:=k.count,call:=k.call,rights:=1,value:=k.value}=
      eh k)/\
    (decide (k.kind=3)=false->
     (decide (k.kind=1)=true->
       (decide (k.kind=1)=true->k=eh k)/\(decide (k.kind=1)=false->void=eh k))/\
      (decide (k.kind=1)=false->
       (decide (k.kind=8)=true->k=eh k)/\(decide (k.kind=8)=false->void=eh k)))):=by
 unfold eh tQ;grind
theorem B6:bW Try.prog 11 EG:=
 jt hJ (fun _=>rfl) fun k hk=>aK (inl:=bx) (ann:=bV) (an D9 az) (CH k) (by kernel_rfl)
theorem A4 (k:Key):
 ((!decide (aW k=0))=true->void=cx k/\2=aW k)/\
   ((!decide (aW k=0))=false->
     ((decide (k.kind=2)||(decide (k.kind=3)||(decide (k.kind=1)||decide (k.kind=8))))=true->
       (decide (k.kind=2)=true->
         true=true/\
          {kind:=k.kind,oid:=k.oid,count:=k.count,call:=k.call,
             rights:=cS BinOp.or IntKind.i64 k.rights 3,value:=k.value}=
           cx k/\
           0=aW k)/\
        (decide (k.kind=2)=false->
         (decide (k.kind=3)=true->
           true=true/\
            {kind:=k.kind,oid:=k.oid,count:=k.count,call:=k.call,
               rights:=cS BinOp.or IntKind.i64 k.rights 1,value:=k.value}=
             cx k/\
             0=aW k)/\
          (decide (k.kind=3)=false->
           (decide (k.kind=1)=true->true=true/\k=cx k/\0=aW k)/\
            (decide (k.kind=1)=false->
             (decide (k.kind=8)=true->true=true/\k=cx k/\0=aW k)/\
              (decide (k.kind=8)=false->False)))))/\
       ((decide (k.kind=2)||(decide (k.kind=3)||(decide (k.kind=1)||decide (k.kind=8))))=false->
         void=cx k/\0=aW k)):=by
 unfold cx aW;cases hok:aA k
 ·simp
 have hr:=nF hok;have o3:k.kind=2->cS BinOp.or IntKind.i64 k.rights 3=jI k.rights 3:=fun e=>Df hr.1 (by rw[e]at hr;exact hr.2)
 have o1:k.kind=3->cS BinOp.or IntKind.i64 k.rights 1=1:=fun e=>CZ hr.1 (by rw[e]at hr;exact hr.2)
 unfold eh tQ;grind
theorem AQ:bW Try.prog 66 C0:=
 jt hJ (fun _=>rfl) fun k hk=>c8 (inl:=(fun f=>f==89||f==87)) (ann:=bV) (an qy (an FP az)) de (A4 k) (by kernel_rfl)
end Go.Proofs.Ytmfbohanboiklaa
