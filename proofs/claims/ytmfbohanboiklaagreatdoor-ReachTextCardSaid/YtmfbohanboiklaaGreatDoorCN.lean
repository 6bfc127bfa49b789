import Derived.Test.YtmfbohanboiklaaGreatDoorKS
import Derived.Test.YtmfbohanboiklaaGreatDoorCV
set_option linter.unusedSimpArgs false
set_option linter.unusedVariables false
namespace Go.Proofs.YtmfbohanboiklaaGreatDoor
open Go.Sx
set_option maxRecDepth 100000
theorem B8(k:Key):
 ((cY []|| !decide (aU k=0))=true->void=dE [] k)/\
   ((cY []|| !decide (aU k=0))=false->
     ((bW k&& !gH [] k)=true->void=dE [] k)/\((bW k&& !gH [] k)=false->k=dE [] k)):=by
 exact vD [] k
theorem B2(L:List Sx.Obj)(k:Key):
 ((cY L|| !decide (aU k=0))=true->void=dE L k)/\
   ((cY L|| !decide (aU k=0))=false->
     ((bW k&& !gH L k)=true->void=dE L k)/\((bW k&& !gH L k)=false->k=dE L k)):=by
 exact vD L k
theorem FU[Fen]:cI Tryz.prog 57 Hi:=
 ql ju (fun _ _=>rfl) (fun x _=>bG (inl:=cq) (ann:=cH) (aS qe (aS qx (aS jj (aS xr bf)))) (B8 x) (by kernel_rfl)) (fun L x _ _ _=>bG (inl:=cq) (ann:=cH) (aS qe (aS qx (aS jj (aS xr bf)))) (B2 L x) (by kernel_rfl)) fun _=>rfl
end Go.Proofs.YtmfbohanboiklaaGreatDoor
namespace Go.Sx
def Le(nid:Nat):V:= .mp nid
def K5(nid:Nat):List aI:= [.mp .i64 [2,3,1,8] [.fn 87 [.lp (nid+1) 0],.fn 87 [.lp (nid+1+1) 0],.fn 85 [],.fn 85 []],
 .blk 24 (.ci .i64 3),.blk 24 (.ci .i64 1)]
end Go.Sx
namespace Go.Proofs.YtmfbohanboiklaaGreatDoor
open Go.Sx
set_option maxRecDepth 100000
theorem Gz:
 true=true/\
 true=true/\
  ∀(nid:Nat),some (Le nid)=some (Le nid)/\some (K5 nid)=some (K5 nid):=by
 exact⟨rfl,rfl,fun nid=>⟨rfl,rfl⟩⟩
theorem Fi[Fen]:cI Tryz.prog 71 (BR Le K5):=BB (π:= [0,1,2]) (by decide) (fun _=>rfl) (eH (inl:=(fun f=>f==86)) (ann:=cH) bf eF Gz (by kernel_rfl))
theorem D1(r m:Int)(hr:bU .i64 r)(hm0:bU .i64 m):
 (∃g,oI g/\r=r/\m=m/\0=cK r m g/\1=g)/\
  ∀(g:Int),
   oI g->
    (decide (g<=4)=true->
      (En g/\dI IntKind.i64 (r.tdiv g))/\
       (En 2/\dI IntKind.i64 ((r.tdiv g).tmod 2))/\
        ((!decide ((r.tdiv g).tmod 2=1))=true->En g/\dI IntKind.i64 (m.tdiv g))/\
          ((!decide ((r.tdiv g).tmod 2=1))=true->En 2/\dI IntKind.i64 ((m.tdiv g).tmod 2))/\
            ((decide ((r.tdiv g).tmod 2=1)||decide ((m.tdiv g).tmod 2=1))=true->
              dI IntKind.i64 (cK r m g+g)/\
               dI IntKind.i64 (g*2)/\
                ∃g',
                 oI g'/\
                  (8-g').toNat<(8-g).toNat/\
                   r=r/\m=m/\cK r m g+g=cK r m g'/\g*2=g')/\
              ((decide ((r.tdiv g).tmod 2=1)||decide ((m.tdiv g).tmod 2=1))=false->
                dI IntKind.i64 (g*2)/\
                 ∃g',
                  oI g'/\
                   (8-g').toNat<(8-g).toNat/\
                    r=r/\m=m/\cK r m g=cK r m g'/\g*2=g'))/\
     (decide (g<=4)=false->cK r m g=il r m):=by
 refine⟨⟨1,.inl rfl,rfl,rfl,by simp[cK],rfl⟩,fun g hg=>⟨fun hlt=>?_,fun hge=>?_⟩⟩
 ·have hlt:=an hlt;have hne:En g:=by unfold En;rcases hg with rfl|rfl|rfl|rfl<;>omega
  have h2:En 2:=by unfold En;omega
  have hs:=BH (r:=r) (m:=m) (g:=g)
  have hn:∃g',oI g'/\(8-g').toNat<(8-g).toNat/\g*2=g':=by
   rcases hg with rfl|rfl|rfl|rfl
   ·exact⟨2,.inr (.inl rfl),by omega,rfl⟩
   ·exact⟨4,.inr (.inr (.inl rfl)),by omega,rfl⟩
   ·exact⟨8,.inr (.inr (.inr rfl)),by omega,rfl⟩
   ·omega
  obtain⟨g',hg1,hg2,rfl⟩:=hn;have hm:dI IntKind.i64 (g*2):=by simp only[dI,bU];rcases hg with rfl|rfl|rfl|rfl<;>omega
  refine⟨⟨hne,zW hr hg⟩,⟨h2,vO _⟩,fun _=>⟨hne,zW hm0 hg⟩,fun _=>⟨h2,vO _⟩,fun h=>⟨by simp only[dI,bU];omega,hm,_,hg1,hg2,rfl,rfl,?_,rfl⟩,fun h=>⟨hm,_,hg1,hg2,rfl,rfl,?_,rfl⟩⟩
  ·rcases hg with rfl|rfl|rfl|rfl
   ·simp[cK,ff]at h⊢;grind
   ·simp[cK,ff]at h⊢;grind
   ·simp[cK,ff]at h⊢;grind
   ·omega
  ·rcases hg with rfl|rfl|rfl|rfl
   ·simp[cK,ff,h]at h⊢ <;>grind
   ·simp[cK,ff,h]at h⊢ <;>grind
   ·simp[cK,ff,h]at h⊢ <;>grind
   ·omega
 ·have hge:=ak hge;rcases hg with rfl|rfl|rfl|rfl<;>first|rfl|omega
theorem BK[Fen]:cI Tryz.prog 34 EH:=
 pg (gd .i64) (gd .i64) (fun _ _=>rfl) fun r m hr hm=>bG (inl:=cq) (ann:=(qJ [(34,3,Jw [0,1,4] (fun g=> [(5,.it .i64 (cK r m g)),(6,.it .i64 g)]) oI 8)])) bf (D1 r m hr hm) (by kernel_rfl)
theorem AA(k:Key):
 ((!decide (aU k=0))=true->void=dA k/\2=aU k)/\
   ((!decide (aU k=0))=false->
     ((decide (k.kind=2)||(decide (k.kind=3)||(decide (k.kind=1)||decide (k.kind=8))))=true->
       (decide (k.kind=2)=true->
         true=true/\
          {kind:=k.kind,oid:=k.oid,count:=k.count,call:=k.call,
             rights:=cG BinOp.or IntKind.i64 k.rights 3,value:=k.value}=
           dA k/\
           0=aU k)/\
        (decide (k.kind=2)=false->
         (decide (k.kind=3)=true->
           true=true/\
            {kind:=k.kind,oid:=k.oid,count:=k.count,call:=k.call,
               rights:=cG BinOp.or IntKind.i64 k.rights 1,value:=k.value}=
             dA k/\
             0=aU k)/\
          (decide (k.kind=3)=false->
           (decide (k.kind=1)=true->true=true/\k=dA k/\0=aU k)/\
            (decide (k.kind=1)=false->
             (decide (k.kind=8)=true->true=true/\k=dA k/\0=aU k)/\
              (decide (k.kind=8)=false->False)))))/\
       ((decide (k.kind=2)||(decide (k.kind=3)||(decide (k.kind=1)||decide (k.kind=8))))=false->
         void=dA k/\0=aU k)):=by
 unfold dA aU;cases hok:aP k
 ·simp
 have hr:=jK hok;have o3:k.kind=2->cG BinOp.or IntKind.i64 k.rights 3=il k.rights 3:=fun e=>DG hr.1 (by rw[e]at hr;exact hr.2)
 have o1:k.kind=3->cG BinOp.or IntKind.i64 k.rights 1=1:=fun e=>CX hr.1 (by rw[e]at hr;exact hr.2)
 unfold xX wg;grind
theorem AP[Fen]:cI Tryz.prog 58 C1:=
 oW ju (fun _=>rfl) fun k hk=>eH (inl:=(fun f=>f==87||f==85)) (ann:=cH) (aS qx (aS Fi bf)) eF (AA k) (by kernel_rfl)
end Go.Proofs.YtmfbohanboiklaaGreatDoor
namespace Go.Proofs.YtmfbohanboiklaaGreatDoor
open Go.Sx
set_option maxRecDepth 100000
end Go.Proofs.YtmfbohanboiklaaGreatDoor
namespace Go.Proofs.YtmfbohanboiklaaGreatDoor
open Go.Sx
set_option maxRecDepth 100000
end Go.Proofs.YtmfbohanboiklaaGreatDoor
