import Derived.Test.YtmfbohanboiklaaGreatKS
import Derived.Test.YtmfbohanboiklaaGreatCV
set_option linter.unusedSimpArgs false
set_option linter.unusedVariables false
namespace Go.Proofs.YtmfbohanboiklaaGreat
open Go.Sx
set_option maxRecDepth 100000
theorem Bu (k:Key):
 ((bD []|| !decide (c9 k=0))=true->void=cL [] k)/\
   ((bD []|| !decide (c9 k=0))=false->
     ((bn k&& !fJ [] k)=true->void=cL [] k)/\((bn k&& !fJ [] k)=false->k=cL [] k)):=by
 exact ub [] k
theorem AZ (L:List Sx.Obj) (k:Key):
 ((bD L|| !decide (c9 k=0))=true->void=cL L k)/\
   ((bD L|| !decide (c9 k=0))=false->
     ((bn k&& !fJ L k)=true->void=cL L k)/\((bn k&& !fJ L k)=false->k=cL L k)):=by
 exact ub L k
theorem DK:cQ Tryz.prog 26 Gd:=
 oY ou (fun _ _=>rfl) (fun x _=>bx (inl:=cg) (ann:=cm) (az kG (az oU (az ir (az uP aS)))) (Bu x) (by kernel_rfl)) (fun L x _ _ _=>bx (inl:=cg) (ann:=cm) (az kG (az oU (az ir (az uP aS)))) (AZ L x) (by kernel_rfl)) fun _=>rfl
end Go.Proofs.YtmfbohanboiklaaGreat
namespace Go.Sx
def IB (nid:Nat):V:= .mp nid
def Ik (nid:Nat):List ae:= [.mp .i64 [2,3,1,8] [.fn 116 [.lp (nid+1) 0],.fn 116 [.lp (nid+1+1) 0],.fn 114 [],.fn 114 []],
 .blk 36 (.ci .i64 3),.blk 36 (.ci .i64 1)]
end Go.Sx
namespace Go.Proofs.YtmfbohanboiklaaGreat
open Go.Sx
set_option maxRecDepth 100000
theorem CK:
 true=true/\
 true=true/\
  ∀(nid:Nat),some (IB nid)=some (IB nid)/\some (Ik nid)=some (Ik nid):=by
 exact⟨rfl,rfl,fun nid=>⟨rfl,rfl⟩⟩
theorem DV:cQ Tryz.prog 97 (Aq IB Ik):=BN (π:= [0,1,2]) (by decide) (fun _=>rfl) (dM (inl:=(fun f=>f==115)) (ann:=cm) aS dR CK (by kernel_rfl))
theorem zu (k:Key):
 ((!decide (c9 k=0))=true->void=cC k/\2=c9 k)/\
   ((!decide (c9 k=0))=false->
     ((decide (k.kind=2)||(decide (k.kind=3)||(decide (k.kind=1)||decide (k.kind=8))))=true->
       (decide (k.kind=2)=true->
         true=true/\
          {kind:=k.kind,oid:=k.oid,count:=k.count,call:=k.call,
             rights:=cq BinOp.or IntKind.i64 k.rights 3,value:=k.value}=
           cC k/\
           0=c9 k)/\
        (decide (k.kind=2)=false->
         (decide (k.kind=3)=true->
           true=true/\
            {kind:=k.kind,oid:=k.oid,count:=k.count,call:=k.call,
               rights:=cq BinOp.or IntKind.i64 k.rights 1,value:=k.value}=
             cC k/\
             0=c9 k)/\
          (decide (k.kind=3)=false->
           (decide (k.kind=1)=true->true=true/\k=cC k/\0=c9 k)/\
            (decide (k.kind=1)=false->
             (decide (k.kind=8)=true->true=true/\k=cC k/\0=c9 k)/\
              (decide (k.kind=8)=false->False)))))/\
       ((decide (k.kind=2)||(decide (k.kind=3)||(decide (k.kind=1)||decide (k.kind=8))))=false->
         void=cC k/\0=c9 k)):=by
 unfold cC c9;cases hok:aC k
 ·simp
 have hr:=mh hok;have o3:k.kind=2->cq BinOp.or IntKind.i64 k.rights 3=nr k.rights 3:=fun e=>Ao hr.1 (by rw[e]at hr;exact hr.2)
 have o1:k.kind=3->cq BinOp.or IntKind.i64 k.rights 1=1:=fun e=>z8 hr.1 (by rw[e]at hr;exact hr.2)
 unfold vQ vE;grind
theorem yI:cQ Tryz.prog 72 z6:=
 sY ou (fun _=>rfl) fun k hk=>dM (inl:=(fun f=>f==116||f==114)) (ann:=cm) (az oU (az DV aS)) dR (zu k) (by kernel_rfl)
end Go.Proofs.YtmfbohanboiklaaGreat
namespace Go.Proofs.YtmfbohanboiklaaGreat
open Go.Sx
set_option maxRecDepth 100000
end Go.Proofs.YtmfbohanboiklaaGreat
namespace Go.Proofs.YtmfbohanboiklaaGreat
open Go.Sx
set_option maxRecDepth 100000
end Go.Proofs.YtmfbohanboiklaaGreat
