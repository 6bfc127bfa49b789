import Derived.Test.YtmfbohanboiklaaKS
set_option linter.unusedSimpArgs false
set_option linter.unusedVariables false
namespace Go.Proofs.Ytmfbohanboiklaa
open Go.Sx
set_option maxRecDepth 100000
theorem Dx (k:Key):
 ((bH []|| !decide (ba k=0))=true->void=aT [] k)/\
   ((bH []|| !decide (ba k=0))=false->
     ((aX k&& !dU [] k)=true->void=aT [] k)/\((aX k&& !dU [] k)=false->k=aT [] k)):=by
 exact xg [] k
theorem CD (L:List Sx.Obj) (k:Key):
 ((bH L|| !decide (ba k=0))=true->void=aT L k)/\
   ((bH L|| !decide (ba k=0))=false->
     ((aX k&& !dU L k)=true->void=aT L k)/\((aX k&& !dU L k)=false->k=aT L k)):=by
 exact xg L k
theorem Gf:bW Try.prog 65 I8:=
 rp gf (fun _ _=>rfl) (fun x _=>aM (inl:=bu) (ann:=bZ) (ak mL (ak re (ak jA (ak xm aA)))) (Dx x) (by kernel_rfl)) (fun L x _ _ _=>aM (inl:=bu) (ann:=bZ) (ak mL (ak re (ak jA (ak xm aA)))) (CD L x) (by kernel_rfl)) fun _=>rfl
theorem Er (l:List Sx.Obj) (k:Key):
 ((decide (aJ (aa l)=0)|| !decide (ba k=0)||decide (0<=aD k)&& !dU l k)=true->
   void=aT l k)/\
   ((decide (aJ (aa l)=0)|| !decide (ba k=0)||decide (0<=aD k)&& !dU l k)=false->
     k=aT l k):=by
 exact BH l k
theorem xb:bW Try.prog 29 Gt:=Ap gf (fun _ _=>rfl) (fun l k _ _ _=>aM (inl:=bu) (ann:=bZ) (ak nT (ak jq (ak yR aA))) (Er l k) (by kernel_rfl)) fun _=>rfl
end Go.Proofs.Ytmfbohanboiklaa
namespace Go.Sx
def My (nid:Nat):V:= .mp nid
def M6 (nid:Nat):List ah:= [.mp .i64 [2,3,1,8] [.fn 89 [.lp (nid+1) 0],.fn 89 [.lp (nid+1+1) 0],.fn 87 [],.fn 87 []],
 .blk 24 (.ci .i64 3),.blk 24 (.ci .i64 1)]
end Go.Sx
namespace Go.Proofs.Ytmfbohanboiklaa
open Go.Sx
set_option maxRecDepth 100000
theorem Gj:
 true=true/\
 true=true/\
  ∀(nid:Nat),some (My nid)=some (My nid)/\some (M6 nid)=some (M6 nid):=by
 exact⟨rfl,rfl,fun nid=>⟨rfl,rfl⟩⟩
theorem FN:bW Try.prog 76 (Du My M6):=Dt (π:= [0,1,2]) (by decide) (fun _=>rfl) (cE (inl:=(fun f=>f==88)) (ann:=bZ) aA cH Gj (by kernel_rfl))
theorem DB (r m:Int) (hr:bE .i64 r) (hm0:bE .i64 m):
 (∃g,pI g/\r=r/\m=m/\0=cA r m g/\1=g)/\
  ∀(g:Int),
   pI g->
    (decide (g<=4)=true->
      (tq g/\aO IntKind.i64 (r.tdiv g))/\
       (tq 2/\aO IntKind.i64 ((r.tdiv g).tmod 2))/\
        ((!decide ((r.tdiv g).tmod 2=1))=true->tq g/\aO IntKind.i64 (m.tdiv g))/\
          ((!decide ((r.tdiv g).tmod 2=1))=true->tq 2/\aO IntKind.i64 ((m.tdiv g).tmod 2))/\
            ((decide ((r.tdiv g).tmod 2=1)||decide ((m.tdiv g).tmod 2=1))=true->
              aO IntKind.i64 (cA r m g+g)/\
               aO IntKind.i64 (g*2)/\
                ∃g',
                 pI g'/\
                  (8-g').toNat<(8-g).toNat/\
                   r=r/\m=m/\cA r m g+g=cA r m g'/\g*2=g')/\
              ((decide ((r.tdiv g).tmod 2=1)||decide ((m.tdiv g).tmod 2=1))=false->
                aO IntKind.i64 (g*2)/\
                 ∃g',
                  pI g'/\
                   (8-g').toNat<(8-g).toNat/\
                    r=r/\m=m/\cA r m g=cA r m g'/\g*2=g'))/\
     (decide (g<=4)=false->cA r m g=gw r m):=by
 refine⟨⟨1,.inl rfl,rfl,rfl,by simp[cA],rfl⟩,fun g hg=>⟨fun hlt=>?_,fun hge=>?_⟩⟩
 ·have hlt:=NU hlt;have hne:tq g:=by unfold tq;rcases hg with rfl|rfl|rfl|rfl<;>omega
  have h2:tq 2:=by unfold tq;omega
  have hs:=D1 (r:=r) (m:=m) (g:=g)
  have hn:∃g',pI g'/\(8-g').toNat<(8-g).toNat/\g*2=g':=by
   rcases hg with rfl|rfl|rfl|rfl
   ·exact⟨2,.inr (.inl rfl),by omega,rfl⟩
   ·exact⟨4,.inr (.inr (.inl rfl)),by omega,rfl⟩
   ·exact⟨8,.inr (.inr (.inr rfl)),by omega,rfl⟩
   ·omega
  obtain⟨g',hg1,hg2,rfl⟩:=hn;have hm:aO IntKind.i64 (g*2):=by simp only[aO,bE];rcases hg with rfl|rfl|rfl|rfl<;>omega
  refine⟨⟨hne,vo hr hg⟩,⟨h2,rZ _⟩,fun _=>⟨hne,vo hm0 hg⟩,fun _=>⟨h2,rZ _⟩,fun h=>⟨by simp only[aO,bE];omega,hm,_,hg1,hg2,rfl,rfl,?_,rfl⟩,fun h=>⟨hm,_,hg1,hg2,rfl,rfl,?_,rfl⟩⟩
  ·rcases hg with rfl|rfl|rfl|rfl
   ·simp[cA,eJ]at h⊢;grind
   ·simp[cA,eJ]at h⊢;grind
   ·simp[cA,eJ]at h⊢;grind
   ·omega
  ·rcases hg with rfl|rfl|rfl|rfl
   ·simp[cA,eJ,h]at h⊢ <;>grind
   ·simp[cA,eJ,h]at h⊢ <;>grind
   ·simp[cA,eJ,h]at h⊢ <;>grind
   ·omega
 ·have hge:=NT hge;rcases hg with rfl|rfl|rfl|rfl<;>first|rfl|omega
theorem Fy:bW Try.prog 23 G3:=
 np (fI .i64) (fI .i64) (fun _ _=>rfl) fun r m hr hm=>aM (inl:=bu) (ann:=(jb [(23,3,FL [0,1,4] (fun g=> [(5,.it .i64 (cA r m g)),(6,.it .i64 g)]) pI 8)])) aA (DB r m hr hm) (by kernel_rfl)
theorem ES (k:Key):
 (decide (k.kind=2)=true->
   {kind:=k.kind,oid:=k.oid,count:=k.count,call:=k.call,rights:=gw k.rights 3,
    value:=k.value}=
    cI k)/\
  (decide (k.kind=2)=false->
   (decide (k.kind=3)=true->
     {kind:=k.kind,oid:=k.oid,count:=k.count,call:=k.call,rights:=1,value:=k.value}=
      cI k)/\
    (decide (k.kind=3)=false->
     (decide (k.kind=1)=true->
       (decide (k.kind=1)=true->k=cI k)/\(decide (k.kind=1)=false->void=cI k))/\
      (decide (k.kind=1)=false->
       (decide (k.kind=8)=true->k=cI k)/\(decide (k.kind=8)=false->void=cI k)))):=by
 unfold cI ua;grind
theorem wX:bW Try.prog 11 Gr:=
 j3 gf (fun _=>rfl) fun k hk=>aM (inl:=bu) (ann:=bZ) (ak Fy aA) (ES k) (by kernel_rfl)
theorem Bx (k:Key):
 ((!decide (ba k=0))=true->void=cD k/\2=ba k)/\
   ((!decide (ba k=0))=false->
     ((decide (k.kind=2)||(decide (k.kind=3)||(decide (k.kind=1)||decide (k.kind=8))))=true->
       (decide (k.kind=2)=true->
         true=true/\
          {kind:=k.kind,oid:=k.oid,count:=k.count,call:=k.call,
             rights:=b7 BinOp.or IntKind.i64 k.rights 3,value:=k.value}=
           cD k/\
           0=ba k)/\
        (decide (k.kind=2)=false->
         (decide (k.kind=3)=true->
           true=true/\
            {kind:=k.kind,oid:=k.oid,count:=k.count,call:=k.call,
               rights:=b7 BinOp.or IntKind.i64 k.rights 1,value:=k.value}=
             cD k/\
             0=ba k)/\
          (decide (k.kind=3)=false->
           (decide (k.kind=1)=true->true=true/\k=cD k/\0=ba k)/\
            (decide (k.kind=1)=false->
             (decide (k.kind=8)=true->true=true/\k=cD k/\0=ba k)/\
              (decide (k.kind=8)=false->False)))))/\
       ((decide (k.kind=2)||(decide (k.kind=3)||(decide (k.kind=1)||decide (k.kind=8))))=false->
         void=cD k/\0=ba k)):=by
 unfold cD ba;cases hok:aw k
 ·simp
 have hr:=oW hok;have o3:k.kind=2->b7 BinOp.or IntKind.i64 k.rights 3=gw k.rights 3:=fun e=>Fm hr.1 (by rw[e]at hr;exact hr.2)
 have o1:k.kind=3->b7 BinOp.or IntKind.i64 k.rights 1=1:=fun e=>EX hr.1 (by rw[e]at hr;exact hr.2)
 unfold cI ua;grind
theorem Bh:bW Try.prog 66 Et:=
 j3 gf (fun _=>rfl) fun k hk=>cE (inl:=(fun f=>f==89||f==87)) (ann:=bZ) (ak re (ak FN aA)) cH (Bx k) (by kernel_rfl)
end Go.Proofs.Ytmfbohanboiklaa
