import Derived.Test.YtmfbohanboiklaaGreatDoorGlA
import Derived.Test.YtmfbohanboiklaaGreatDoorCtTj0
import Derived.Lib.LaidTab
import Derived.LaidMore
import Derived.Stop.LaidErr
set_option linter.unusedSimpArgs false
set_option linter.unusedVariables false
set_option maxRecDepth 100000
namespace Go.Proofs.YtmfbohanboiklaaGreatDoor
open Go.Sx Go.ChangeShapes Go.WideShapes
def Kq:List Kd:= [.i .i64,.i .i64,.i .i64,.i .i64,.i .i64]
theorem oB:Dy Kq (fun k:LL=>bU .i64 k.1/\bU .i64 k.2.1/\bU .i64 k.2.2.1/\bU .i64 k.2.2.2.1/\bU .i64 k.2.2.2.2.1/\True) (fun k=> [.it .i64 k.1,.it .i64 k.2.1,.it .i64 k.2.2.1,.it .i64 k.2.2.2.1,.it .i64 k.2.2.2.2.1]):=
 jr (vH .i64) (jr (vH .i64) (jr (vH .i64) (jr (vH .i64) (jr (vH .i64) D9))))
theorem vQ:HN Kq (fun k:Key=>bU .i64 k.kind/\bU .i64 k.oid/\bU .i64 k.count/\bU .i64 k.call/\bU .i64 k.rights/\True) ye:=
 ⟨fun cs h=>by
  obtain⟨x,h1,h2⟩:=(uP oB).1 cs h;exact⟨nf x,h1,h2⟩,fun k hk=>(uP oB).2 (k.kind,k.oid,k.count,k.call,k.rights,()) hk⟩
theorem Fv:HN Kq (fun x:Cp=>x.length=5/\∀y∈x,bU .i64 y) (fun x=> .ag (qL [x] 0 0 5)):=by
 refine⟨fun cs h=>?_,fun x hx=>?_⟩
 ·obtain⟨x,h1,h2⟩:=(uP oB).1 cs h;refine⟨[x.1,x.2.1,x.2.2.1,x.2.2.2.1,x.2.2.2.2.1],⟨rfl,?_⟩,h2⟩;simp only[List.mem_cons,List.not_mem_nil,or_false,forall_eq_or_imp,forall_eq];exact⟨h1.1,h1.2.1,h1.2.2.1,h1.2.2.2.1,h1.2.2.2.2.1⟩
 ·obtain⟨h1,h2⟩:=hx;match x,h1,h2 with
  | [a,b,c,d,e],_,h2=>
    simp only[List.mem_cons,List.not_mem_nil,or_false,forall_eq_or_imp,forall_eq]at h2;exact(uP oB).2 (a,b,c,d,e,()) ⟨h2.1,h2.2.1,h2.2.2.1,h2.2.2.2.1,h2.2.2.2.2,trivial⟩
theorem CZ{J:Env}{res:List aI}{W:World}(h:aQ J (fun _ _=>False) res (known res) W (fun _=>False) W)(hp:K4 W (fun _=>False)):aQ J (fun _ _=>False) (res++ [.pin]) (known (res++ [.pin])) W (fun _=>False) W:=by
 have hg:∀i,aH (res++ [.pin]) i=if i<res.length then aH res i else if i=res.length then .pin else .yet:=fun i=>by
  rw[bc];split
  ·rfl
  ·split
   ·rename_i e;subst e;simp[aH]
   ·obtain⟨m,hm⟩:∃m,i-res.length=m+1:=⟨i-res.length-1,by omega⟩
    rw[hm];simp[aH]
 have hm:∀i,known res i->known (res++ [.pin]) i:=fun i hi=>by
  unfold known;rw[hg,au (aK hi)];exact hi
 refine⟨fun i hi=>hi,Nat.le_refl _,rfl,rfl,rfl,fun i hi=>?_,fun i b _ h=>h.elim,fun i j b _ _ _ h=>h.elim,fun i b _ h=>h.elim,fun _ _ _=>rfl⟩
 rw[hg];split
 ·rename_i hlt;have hk:known res i:=by unfold known at hi⊢;rw[hg,au hlt]at hi;exact hi
  exact aI.iE _ (h.holds i hk) hm
 ·split
  ·exact hp
  ·trivial
theorem CI{W:World}(h:Lib.TabIs Tryz.prog W A6 .u64 Lib.pow10Tab):K4 W (fun _=>False):=by
 unfold Lib.TabIs World.var? at h;have hg:Tryz.prog.globalNamed A6=some 0:=by kernel_rfl
 rw[hg]at h;simp only[Option.bind_some]at h;split at h
 ·rename_i cs t z hh;refine⟨fun h=>h,t,z,?_⟩
  rw[hh,Option.some.inj h];unfold II Lib.pow10Tab;rw[List.map_map];rfl
 ·simp at h
end Go.Proofs.YtmfbohanboiklaaGreatDoor
