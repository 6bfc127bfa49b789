import Derived.Test.YtlblcfaclmpekaaGreatMa0
import Derived.TacticsIn
import Derived.OrdersIn
import Derived.RangeFuncLeaves
import Derived.RangeFuncRecord
set_option linter.unusedSimpArgs false
set_option linter.unusedVariables false
namespace Go.Sx
open Go.RowKit (Below)
structure St where
 slots:List S
 res:List aK
 defs:List (Nat×List V×List V)
def BO:List V->Option Nat
 | [x]=>match x with
   | .yl k=>some k
   |_=>none
 |_=>none
def lN (J:Env) (d:Nat×List V×List V):List Deferred:=
 match BO d.2.1 with
 |some k=>(List.range (J.sn k)).map fun j=> {target:= .collected (J.ob k j),args:= #[]}
 |none=> [{target:= .fn (.func d.1) (bB J d.2.2).toArray,args:=(bB J d.2.1).toArray}]
theorem ME {l:List V} {k:Nat} (h:BO l=some k):l= [.yl k]:=by
 unfold BO at h;split at h
 ·grind
 ·simp at h
def lJ (J:Env) (fps:Nat->Nat->Prop) (U:St) (w0:World) (F0:Nat->Prop) (a:Act) (w:World):Prop:=
 jo J (known U.res) U.slots a/\bq J fps U.res (known U.res) w0 F0 w/\a.defers=U.defs.flatMap (lN J)/\∀d∈U.defs,fM (known U.res) d.2.1/\fM (known U.res) d.2.2
def Good (J:Env) (res:List aK) (ρ':Env) (res':List aK):Prop:=Env.bE (known res) J ρ'/\∀i,known res i->known res' i
theorem Good.refl (J:Env) (res:List aK):Good J res J res:=⟨Env.bE.refl _ _,fun _ h=>h⟩
theorem Good.trans {J ρ' ρ'':Env} {r r' r'':List aK} (h:Good J r ρ' r') (h':Good ρ' r' ρ'' r''):Good J r ρ'' r'':=
 ⟨h.1.trans h'.1 h.2,fun i hi=>h'.2 i (h.2 i hi)⟩
theorem fI {J ρ':Env} {K K':Nat->Prop} {l:List (Nat×List V×List V)} (hl:∀d∈l,fM K d.2.1/\fM K d.2.2) (ha:Env.bE K J ρ') (hK:∀i,K i->K' i):
  l.flatMap (lN ρ')=l.flatMap (lN J)/\∀d∈l,fM K' d.2.1/\fM K' d.2.2:=
 ⟨by
  rw[List.flatMap_def,List.flatMap_def];refine congrArg _ (List.map_congr_left fun d hd=>?_)
  ·
   unfold lN;cases hm:BO d.2.1 with
   |none=>simp only[fS ha _ (hl d hd).1,fS ha _ (hl d hd).2]
   |some k=>
    have h1:=(hl d hd).1;rw[ME hm]at h1;simp only[(ha k h1.1).2.2.2.2.1,(ha k h1.1).2.2.2.2.2],fun d hd=>⟨dt hK _ (hl d hd).1,dt hK _ (hl d hd).2⟩⟩
def an (P:Program) (f:Nat) (args:List V) (res:List aK) (K:V->List aK->Prop) (KP:V->List aK->Prop):Prop:=
 ∀J fps w0 F0 w,bq J fps res (known res) w0 F0 w->fM (known res) args->
  CallsIn (FF P none) 0 P f (bB J args).toArray w fun e w'=>∃x ρ' fps' res',bq ρ' fps' res' (known res') w0 F0 w'/\Good J res ρ' res'/\ok (known res') x/\
   ((e= .returned (den ρ' x)/\K x res')\/(e= .panicked [{v:=den ρ' x,recovered:=false}]/\KP x res'))
abbrev Handler:=Nat->List V->List aK->(V->List aK->Prop)->(V->List aK->Prop)->Prop
def Handler.OK (P:Program) (H:Handler):Prop:=∀f args res K KP,H f args res K KP->an P f args res K KP
def oS (res new:List aK):List aK:=
 match new with
 | []=>res
 |r::l=>res++(r::l)
theorem rV (res new:List aK):oS res new=res++new:=by cases new<;>simp[oS]
def Qa (d:Nat):S->Bool
 | .gv ch _=> !named d ch
 |_=>true
def oL (sl:List S) (dst:Option Nat) (s:S):Option (List S):=
 match dst with
 |none=>some sl
 |some d=>if zi d sl&&Qa d s then some (sset sl d s)else none
def EE:List S->Nat->S->(List S->Prop)->Prop
 | [],_,_,k=>k []
 |_::l,0,y,k=>k (y::l)
 |x::l,n+1,y,k=>EE l n y fun l'=>k (x::l')
theorem Aj:∀(l:List S) (n:Nat) (y:S) (k:List S->Prop),EE l n y k=k (sset l n y)
 | [],_,_,_=>rfl
 |_::_,0,_,_=>rfl
 |_::l,n+1,y,k=>by simp only[EE,sset];exact Aj l n y _
def qa (sl:List S) (dst:Option Nat) (s:S) (k:List S->Prop):Prop:=
 match dst with
 |none=>k sl
 |some d=>if zi d sl&&Qa d s then EE sl d s k else False
theorem lD (sl:List S) (dst:Option Nat) (s:S) (k:List S->Prop):qa sl dst s k=match oL sl dst s with|some l=>k l|none=>False:=by
 unfold qa oL;cases dst with
 |none=>rfl
 |some d=>
  simp only;split
  ·rw[Aj]
  ·rfl
def zN:List S->(List S->Prop)->Prop
 | [],k=>k []
 |x::l,k=>match x with
  | .und=>zN l fun l'=>k (.und::l')
  | .ud=>zN l fun l'=>k (.ud::l')
  | .v y=>zN l fun l'=>k (.v y::l')
  | .gv c y=>zN l fun l'=>k (.gv c y::l')
theorem uK:∀(l:List S) (k:List S->Prop),zN l k=k l
 | [],_=>rfl
 |x::l,k=>by cases x<;>simp only[zN]<;>exact uK l _
def mK:List S->(List S->Prop)->Prop
 | [],k=>k []
 |x::l,k=>match x with
  | .v y=>mK l fun l'=>k (.v y::l')
  |_=>mK l fun l'=>k (.und::l')
theorem kW:∀(l:List S) (k:List S->Prop),mK l k=k (clean l)
 | [],_=>rfl
 |x::l,k=>by cases x<;>simp only[mK,clean]<;>exact kW l _
def p6 (P:Program) (res:List aK) (t:Nat) (p y:V):Option (List aK):=
 if oZ P t==some (fg y)&& !cV y then
  match p with
  | .lp id off=>match ay res id with
    | .blk ty c=>(setAt 8 c off y).map fun c'=>bO res id (.blk ty c')
    |_=>none
  | .lx id off esz n i inner=>match ay res id with
    | .blk ty c=>(Ik c off esz n i inner y).map fun c'=>bO res id (.blk ty c')
    |_=>none
  |_=>none
 else none
def ptK (v:V) (z j:Nat):Option V:=
 match v with
 | .ks x z' n lo hi=>match x with
   | .lp id off=>if z==z'&&Nat.blt j (hi-lo)then some (.lp id (off+(lo+j)*z))else none
   |_=>none
 | .sc id len _=>if Nat.blt j len then some (.lp id (j*z))else none
 |_=>none
def lnK:V->Option Nat
 | .ks x _ _ lo hi=>if IX x then some (hi-lo)else none
 | .sc _ len _=>some len
 |_=>none
def Zy (C:Ctx) (res:List aK) (t z:Nat) (v:V):Nat->Nat->Option (List V)
 |_,0=>some []
 |j,m+1=>match ptK v z j with
  |some p=>match za C res t p with
   |some r=>match r.1 with
    |none=>match Zy C res t z v (j+1) m with
     |some l=>some (r.2::l)
     |none=>none
    |some _=>none
   |none=>none
  |none=>none
def wrE (P:Program) (t z:Nat) (v:V):Nat->List V->List aK->Option (List aK)
 |_,[],res=>some res
 |j,y::l,res=>match ptK v z j with
  |some p=>match p6 P res t p y with
   |some res'=>wrE P t z v (j+1) l res'
   |none=>none
  |none=>none
def cpK (C:Ctx) (res:List aK) (ts:List Nat) (xs:List V):Option (V×List aK):=
 match ts,xs with
 | [t,_],[d,s]=>match C.P.underlying t with
   |some (.slice e)=>match oZ C.P e,lZ C.P e,lnK d,lnK s with
    |some z,some a,some n,some m=>if a&&bY .i64 ((Nat.min m n:Nat):Int)then match Zy C res e z s 0 (Nat.min m n)with
     |some l=>match wrE C.P e z d 0 l res with
      |some res'=>some (.ci .i64 ((Nat.min m n:Nat):Int),res')
      |none=>none
     |none=>none
     else none
    |_,_,_,_=>none
   |_=>none
 |_,_=>none
def cpA (C:Ctx) (res:List aK) (ts:List Nat) (xs:List V):Option (V×List aK):=
 match cpV C res ts xs with
 |some r=>some r
 |none=>cpK C res ts xs
abbrev dQ:=Nat->List V->List aK->(V->List aK->Prop)->(V->List aK->Prop)->Prop
def noY:dQ:=fun _ _ _ _ _=>False
theorem WZ {N:Nat->Prop} {g:Nat} {vs caps:List V} (h1:fM N vs) (h2:fM N caps):fM N (Uq g vs caps):=by
 grind[Uq,ja]
def Gm (C:Ctx) (H:Handler) (vs:List V) (res:List aK) (K KP:V->List aK->Prop):V->Prop
 | .fn g caps=>iP C.P (FA g)=true/\H (FA g) (Uq g vs caps) res K KP
 | .ch b g caps y=>(b=true->iP C.P (FA g)=true/\H (FA g) (Uq g vs caps) res K KP)/\(b=false->Gm C H vs res K KP y)
 |_=>False
theorem xm {C:Ctx} {H:Handler} {vs:List V} {res:List aK} {K KP:V->List aK->Prop} {J:Env} {N:Nat->Prop}:∀fv,Gm C H vs res K KP fv->ok N fv->
  ∃g caps,den J fv=FC g (bB J caps)/\fM N caps/\iP C.P (FA g)=true/\H (FA g) (Uq g vs caps) res K KP
 | .fn g caps,h,hk=>⟨g,caps,rfl,hk,h.1,h.2⟩
 | .ch b g caps y,h,hk=>by
   cases b
   ·obtain⟨g',caps',e⟩:=xm (J:=J) y (h.2 rfl) hk.2.1;exact⟨g',caps',e⟩
   ·exact⟨g,caps,rfl,hk.1,(h.1 rfl).1,(h.1 rfl).2⟩
 | .cb _,h,_| .bo _,h,_| .ci _ _,h,_| .it _ _,h,_| .bt _,h,_| .st _,h,_| .nl _,h,_| .lp _ _,h,_| .lx _ _ _ _ _ _,h,_| .sc _ _ _,h,_| .so _ _,h,_| .ap _ _ _ _,h,_| .sa _,h,_| .op _ _,h,_| .yl _,h,_| .ic _ _,h,_| .ag _,h,_| .tp _,h,_
 | .key _,h,_| .sl _,h,_| .by _,h,_| .ob _,h,_| .mp _,h,_| .ax _ _ _ _ _ _ _ _,h,_| .bs _ _ _,h,_| .ks _ _ _ _ _,h,_=>h.elim
def Sh (C:Ctx) (H:Handler) (Y:dQ) (U:St) (ch:List (Nat×Bool)) (o:Oper) (K:St->Prop) (KP:V->St->Prop):Prop:=
 match o.op with
 | .store t p x=>match fm U.slots ch p,fm U.slots ch x,o.dst with
   |some pv,some xv,none=>match p6 C.P U.res t pv xv with
    |some res'=>K {U with res:=res'}
    |none=>match GO C.P U.res t pv xv with
     |some (q,res')=>D0 q (K {U with res:=res'})
     |none=>False
   |_,_,_=>False
 | .insert t m k x=>match fm U.slots ch m,fm U.slots ch k,fm U.slots ch x,o.dst with
   |some mv,some kv,some xv,none=>match TO C.P U.res t mv kv xv with
    |some res'=>K {U with res:=res'}
    |none=>match UE C.P U.res t mv kv xv with
     |some res'=>K {U with res:=res'}
     |none=>False
   |_,_,_,_=>False
 | .panic x=>match fm U.slots ch x with
   |some (.ic t y)=>KP (.ic t y) {U with slots:=clean U.slots}
   |_=>False
 | .call c=>match c.callee with
   | .value f=>match fm U.slots ch f,mT U.slots ch c.args.toList with
     |some (.fn g caps),some vs=>iP C.P (FA g)=true/\H (FA g) (Uq g vs caps) U.res
      (fun x res'=>qa U.slots o.dst (.v x) fun sl=>K {U with slots:=sl,res:=res'})
      (fun x res'=>KP x {U with slots:=clean U.slots,res:=res'})
     |some (.ch b g caps y),some vs=>Gm C H vs U.res
      (fun x res'=>qa U.slots o.dst (.v x) fun sl=>K {U with slots:=sl,res:=res'})
      (fun x res'=>KP x {U with slots:=clean U.slots,res:=res'}) (.ch b g caps y)
     |some (.yl k),some vs=>Y k vs U.res
      (fun x res'=>qa U.slots o.dst (.v x) fun sl=>K {U with slots:=sl,res:=res'})
      (fun x res'=>KP x {U with slots:=clean U.slots,res:=res'})
     |_,_=>False
   | .builtin .append=>match c.argTypes.toList,mT U.slots ch c.args.toList with
     | [t,t'],some [x,y]=>if t==t' then match Xf C U.res t x y with
       |some (q,v,res')=>D0 q (qa U.slots o.dst (.v v) fun sl=>K {U with slots:=sl,res:=res'})
       |none=>False
       else False
     |_,_=>False
   | .builtin .copy=>match mT U.slots ch c.args.toList with
     |some vs=>match cpA C U.res c.argTypes.toList vs with
      |some (v,res')=>qa U.slots o.dst (.v v) fun sl=>K {U with slots:=sl,res:=res'}
      |none=>False
     |none=>False
   | .builtin .clear=>match mT U.slots ch c.args.toList with
     |some vs=>match VQ C U.res c.argTypes.toList vs with
      |some res'=>qa U.slots o.dst (.v (.tp [])) fun sl=>K {U with slots:=sl,res:=res'}
      |none=>False
     |none=>False
   |_=>False
 | .defer c=>match c.callee,o.dst with
   | .value f,none=>match fm U.slots ch f,mT U.slots ch c.args.toList with
     |some (.fn g caps),some vs=>match BO vs with
      |none=>if Nat.blt g 2000 then K {U with defs:=(g,vs,caps)::U.defs}else False
      |some _=>False
     |_,_=>False
   |_,_=>False
 |_=>False
def xA:List (Nat×Bool)->Nat->Option Bool
 | [],_=>none
 | (s,w)::c,i=>if s==i then some w else xA c i
def Cg (ch:List (Nat×Bool)) (i:Nat) (s:S):S:=
 match s with
 | .v y=>match y with
   | .bo b=>match xA ch i with
     |some w=> .v (.cb w)
     |none=> .v (.bo b)
   |y=> .v y
 | .gv c y=>if HA c ch then match y with
   | .bo b=>match xA ch i with
     |some w=> .v (.cb w)
     |none=> .v (.bo b)
   |y=> .v y
   else .gv c y
 |s=>s
def Hm (ch:List (Nat×Bool)):Nat->List S->List S
 |_,[]=> []
 |i,s::l=>Cg ch i s::Hm ch (i+1) l
def fixF (t:Nat) (w:Bool) (i:Nat) (s:S):S:=
 match s with
 | .v y=>match y with
   | .bo b=>if i==t then .v (.cb (!w))else .v (.bo b)
   |y=> .v y
 | .gv c _=>if Hz c t w then .ud else .und
 |s=>s
def D7 (t:Nat) (w:Bool):Nat->List S->List S
 |_,[]=> []
 |i,s::l=>fixF t w i s::D7 t w (i+1) l
def slF (ch:List (Nat×Bool)) (l:List S):List S:=
 match ch with
 | [(t,w)]=>match b9 l t with
   | .v (.bo _)=>D7 t w 0 l
   |_=>l
 |_=>l
def zg (C:Ctx) (H:Handler) (Y:dQ) (ops:List Oper) (o:Oper) (U:St) (K:St->Prop) (KP:V->St->Prop):Prop:=
 if abB C.P U.slots o then match sF U.slots ops o.guard with
 |none=>False
 |some none=>qa U.slots o.dst .ud fun sl=>K {U with slots:=sl}
 |some (some ch)=>match Ck C U.slots U.res U.res.length ch o.op with
  |some (q,x,new)=>
   if ch.isEmpty then
    qa U.slots o.dst (.v x) fun sl=>D0 q (K {U with slots:=sl,res:=oS U.res new})
   else if new.isEmpty then
    qa U.slots o.dst (.gv ch x) fun sl=>X1 (mQ U.slots ch) q (K {U with slots:=sl})
   else(mQ U.slots ch=true->qa U.slots o.dst (.v x) fun sl=>D0 q (K {U with slots:=sl,res:=oS U.res new}))/\(mQ U.slots ch=false->qa U.slots o.dst .ud fun sl=>K {U with slots:=sl})
  |none=>if ch.isEmpty then Sh C H Y U ch o K KP else(mQ U.slots ch=true->zN (Hm ch 0 U.slots) fun sl=>Sh C H Y {U with slots:=sl} [] o K KP)/\(mQ U.slots ch=false->zN (slF ch U.slots) fun sl=>qa sl o.dst .ud fun sl=>K {U with slots:=sl})
 else False
section
variable {C:Ctx} {J:Env} {fps:Nat->Nat->Prop} {w0 w:World} {F0:Nat->Prop} {a:Act}
theorem jo.oL {K:Nat->Prop} {sl sl':List S} {dst:Option Nat} {s:S} {x:Value} (h:jo J K sl a) (hp:oL sl dst s=some sl')
  (hs:∀d,dst=some d->zi d sl=true->(∀ch y,s= .gv ch y->named d ch=false)->g8 J K (sset sl d s) x s):jo J K sl' (a.put dst x):=by
 unfold Sx.oL at hp;cases dst with
 |none=>simp only[aaV]at hp;subst hp;exact h
 |some d=>
  simp only at hp;split at hp
  ·rename_i hc;simp only[aaV]at hp;simp only[aaX]at hc;subst hp;refine h.put hc.1 (hs d rfl hc.1 fun ch y e=>?_)
   subst e;simpa[Qa]using hc.2
  ·simp at hp
theorem put_defers (a:Act) (dst:Option Nat) (v:Value):(a.put dst v).defers=a.defers:=by cases dst<;>rfl
theorem iK (w:World) (g:Nat) (cs cs':Array Value) (t:Nat) (h:w.heap[g]? =some (.cells cs t (0,0))):(w.setRow g cs').heap[g]? =some (.cells cs' t (0,0)):=by
 exact setRow_heap w g cs cs' t (0,0) h
theorem zr {P:Program} {res res':List aK} {K:Nat->Prop} {t:Nat} {p y:V} (h:bq J fps res K w0 F0 w) (hs:p6 P res t p y=some res') (hp:ok K p) (hy:ok K y):
  ∃b off ty cs cs',den J p= .pointer (some ⟨b,off,none⟩)/\w.heap[b]? =some (.cells cs ty (0,0))/\(∀w1:World,w1.heap[b]? =some (.cells cs ty (0,0))->(Instr.storeAt t (den J p) (den J y)).run P w1= .ok () (w1.setRow b cs'))/\bq J fps res' K w0 F0 (w.setRow b cs')/\∀i,known res' i↔known res i:=by
 unfold p6 at hs;split at hs
 ·rename_i hc;simp only[aaX,aaZ,Bool.not_eq_true']at hc;obtain⟨hsz,hty⟩:=hc
  have fin:∀id ty c c' off,ay res id= .blk ty c->Iu K J c c' off y->den J p= .pointer (some ⟨J.num id,off,none⟩)->
    ∃b off ty' cs cs',den J p= .pointer (some ⟨b,off,none⟩)/\w.heap[b]? =some (.cells cs ty' (0,0))/\(∀w1:World,w1.heap[b]? =some (.cells cs ty' (0,0))->(Instr.storeAt t (den J p) (den J y)).run P w1= .ok () (w1.setRow b cs'))/\bq J fps (bO res id (.blk ty c')) K w0 F0 (w.setRow b cs')/\∀i,known (bO res id (.blk ty c')) i↔known res i:=by
   intro id ty c c' off hr hput hdp;have hk:known res id:=by unfold known;rw[hr];simp
   have hh:=h.holds id hk;rw[hr]at hh;obtain⟨h1,h2,h3,h4⟩:=hh;refine⟨J.num id,off,ty,(cells J c).toArray,(cells J c').toArray,hdp,h4,fun w1 hw1=>?_,h.write hr hput.2.2.1 hput.2.2.2 rfl rfl rfl (by simp[World.setRow]) (iK w _ _ _ _ h4) fun b hb=>setRow_other w _ _ b hb,fun i=>?_⟩
   ·have hst:=zo (P:=P) (t:=t) w1 hy hty hsz hw1 hput;rw[hdp];simp only[Instr.storeAt,Instr.sureAddr,Sem.run_bind,Sem.run_pure,Result.andThen_ok];exact hst
   ·grind[known,bJ,aO]
  split at hs
  ·rename_i id off;split at hs
   ·rename_i ty c hr;cases hset:setAt 8 c off y with
    |none=>simp[hset]at hs
    |some c'=>
     simp only[hset,Option.map_some,aaV]at hs;subst hs;have hh:=h.holds id (by unfold known;rw[hr];simp)
     rw[hr]at hh;exact fin id ty c c' off hr (iz J y hy hty 8 c off c' hh.1 hh.2.1 hset) rfl
   ·simp at hs
  ·rename_i id off esz n i inner;split at hs
   ·rename_i ty c hr;cases hset:Ik c off esz n i inner y with
    |none=>simp[hset]at hs
    |some c'=>
     simp only[hset,Option.map_some,aaV]at hs;subst hs;have hh:=h.holds id (by unfold known;rw[hr];simp)
     rw[hr]at hh;exact fin id ty c c' _ hr (Gw J hh.1 hh.2.1 hp.2 hy hty hset) rfl
   ·simp at hs
  ·simp at hs
 ·simp at hs
theorem qQ {P:Program} {res res':List aK} {K:Nat->Prop} {t:Nat} {p y:V} (h:bq J fps res K w0 F0 w) (hs:p6 P res t p y=some res') (hp:ok K p) (hy:ok K y):
  ∃w',(Instr.storeAt t (den J p) (den J y)).run P w= .ok () w'/\bq J fps res' K w0 F0 w'/\∀i,known res' i↔known res i:=by
 obtain⟨b,off,ty,cs,cs',h1,h2,h3,h4,h5⟩:=zr h hs hp hy;exact⟨_,h3 w h2,h4,h5⟩
theorem Is {J:Env} {v:V} {n:Nat} (h:lnK v=some n):∃a cap,den J v= .slice (some a) n cap:=by
 unfold lnK at h;split at h
 ·split at h<;>simp only[aaV,reduceCtorEq]at h
  rename_i hx;subst h;obtain⟨b,o,hd⟩:=uZ (J:=J) hx;simp only[den,wS,hd];exact⟨_,_,rfl⟩
 ·simp only[aaV]at h;subst h;exact⟨_,_,rfl⟩
 ·simp at h
theorem HW {J:Env} {K:Nat->Prop} {v p:V} {z j n cap:Nat} {a:Addr} (h:ptK v z j=some p) (hk:ok K v) (hd:den J v= .slice (some a) n cap):a.spot=none/\den J p= .pointer (some (a.add (j*z)))/\ok K p:=by
 unfold ptK at h;split at h
 ·rename_i x z' n' lo hi;split at h
  case h_2=>simp at h
  rename_i id off;split at h<;>simp only[aaV,reduceCtorEq]at h
  rename_i hc;simp only[aaX,aaZ,Nat.blt_eq]at hc;obtain⟨rfl,hj⟩:=hc;subst h;obtain⟨hk1,hk2,hk3⟩:=hk;simp only[den,wS]at hd⊢;rw[aa3 (by omega),add_lit]at hd
  simp only[Value.slice.injEq,aaV]at hd;obtain⟨rfl,h2,h3⟩:=hd;rw[add_lit];exact⟨rfl,by simp only[Nat.add_mul,Nat.add_assoc],hk1⟩
 ·split at h<;>simp only[aaV,reduceCtorEq]at h
  subst h;simp only[den,Value.slice.injEq,aaV]at hd;obtain⟨rfl,h2,h3⟩:=hd;refine⟨rfl,?_,hk⟩;simp only[den];rw[add_lit,Nat.zero_add]
 ·simp at h
theorem add_add {a:Addr} (h:a.spot=none) (i j:Nat):(a.add i).add j=a.add (i+j):=by
 obtain⟨b,o,s⟩:=a;simp only at h;subst h;rw[add_lit,add_lit,add_lit,Nat.add_assoc]
theorem A6 {a:Addr} (h:a.spot=none) (k:Nat):∀(n i:Nat) (acc:Array Value),loadCellsFrom (a.add k) i n acc=loadCellsFrom a (k+i) n acc
 |0,i,acc=>rfl
 |n+1,i,acc=>by
  simp only[loadCellsFrom,add_add h];congr 1
  funext v
  exact A6 h k n (i+1) (acc.push v)
theorem H2 {P:Program} {a:Addr} {w:World}:∀(n i:Nat) (acc ys:Array Value) (w':World),(loadCellsFrom a i n acc).run P w= .ok ys w'->w'=w/\∃xs,ys=acc++xs/\∀acc',(loadCellsFrom a i n acc').run P w= .ok (acc'++xs) w
 |0,i,acc,ys,w',h=>by
  simp only[loadCellsFrom,Sem.run_pure,Result.ok.injEq]at h;obtain⟨rfl,rfl⟩:=h;exact⟨rfl, #[],by simp,fun acc'=>by simp[loadCellsFrom]⟩
 |n+1,i,acc,ys,w',h=>by
  simp only[loadCellsFrom,Sem.run_bind]at h;cases hv:(load (a.add i)).run P w with
  |halt x w1=>rw[hv]at h;simp[Result.andThen]at h
  |ok v w1=>
   have hw:w1=w:=by
    rw[run_load]at hv;split at hv
    ·simp only[Result.ok.injEq]at hv;exact hv.2.symm
    ·grind
   subst hw;rw[hv]at h;simp only[Result.andThen_ok]at h;obtain⟨rfl,xs,rfl,h3⟩:=H2 n (i+1) _ _ _ h;refine⟨rfl, #[v]++xs,by apply Array.ext';simp,fun acc'=>?_⟩
   simp only[loadCellsFrom,Sem.run_bind,hv,Result.andThen_ok,h3];congr 1
   apply Array.ext'
   simp
theorem ID {P:Program} {a:Addr}:∀(p q i:Nat) (acc:Array Value) (w:World),(loadCellsFrom a i (p+q) acc).run P w=((loadCellsFrom a i p acc).run P w).andThen fun acc' w'=>(loadCellsFrom a (i+p) q acc').run P w'
 |0,q,i,acc,w=>by simp[loadCellsFrom]
 |p+1,q,i,acc,w=>by
  rw[show p+1+q=(p+q)+1 by omega]
  simp only[loadCellsFrom,Sem.run_bind];cases hv:(load (a.add i)).run P w with
  |halt x w1=>simp[Result.andThen]
  |ok v w1=>
   simp only[Result.andThen_ok];rw[ID p q (i+1),show i+1+p=i+(p+1) by omega]
theorem EG {C:Ctx} {res:List aK} {K:Nat->Prop} {t z:Nat} {v:V} {a:Addr} {len cap:Nat} (h:bq J fps res K w0 F0 w) (ht:lZ C.P t=some true) (hz:oZ C.P t=some z) (hk:ok K v) (hd:den J v= .slice (some a) len cap):
  ∀(m j:Nat) (l:List V),Zy C res t z v j m=some l->(∀acc,(loadCellsFrom a (j*z) (m*z) acc).run C.P w= .ok (acc++(bp J l).toArray) w)/\fM K l/\ti l
 |0,j,l,hl=>by
  simp only[Zy,aaV]at hl;subst hl;exact⟨fun acc=>by simp[loadCellsFrom,bp],trivial,trivial⟩
 |m+1,j,l,hl=>by
  simp only[Zy]at hl;split at hl
  case h_2=>simp at hl
  rename_i p hp;split at hl
  case h_2=>simp at hl
  rename_i r hr;split at hl
  case h_2=>simp at hl
  rename_i hq;split at hl<;>simp only[aaV,reduceCtorEq]at hl
  rename_i l' hl';subst hl;obtain⟨y1,y2⟩:=r;simp only at hq hr;subst hq;obtain⟨p1,p2,p3⟩:=HW hp hk hd;obtain⟨e1,e2,e3⟩:=tU h hr trivial p3;obtain⟨i1,i2,i3⟩:=EG h ht hz hk hd m (j+1) l' hl';rw[p2]at e1;simp only[Instr.loadAt,Instr.sureAddr,Sem.run_bind,Sem.run_pure,Result.andThen_ok,loadVar,sD w ht,if_true,gz w hz]at e1;have hag:(den J y2).cells=(cells J y2).toArray:=by simp[cells]
  cases hc:(loadCells (a.add (j*z)) z).run C.P w with
  |halt x w1=>rw[hc]at e1;simp[Result.andThen]at e1
  |ok cs w1=>
   rw[hc]at e1;simp only[Result.andThen_ok,Sem.run_pure,Result.ok.injEq]at e1;obtain⟨e1,rfl⟩:=e1
   have hcs:cs=(cells J y2).toArray:=by
    rw[<-hag,<-e1];rfl
   unfold loadCells at hc;rw[A6 p1]at hc;obtain⟨_,xs,hx,hrun⟩:=H2 _ _ _ _ _ hc;simp only[Nat.add_zero]at hrun;have hxs:xs=(cells J y2).toArray:=by rw[<-hcs,hx];simp
   subst hxs;refine⟨fun acc=>?_,⟨e2,i2⟩,?_,i3⟩
   ·rw[Nat.add_mul,Nat.one_mul,Nat.add_comm,ID,hrun,Result.andThen_ok];rw[show j*z+z=(j+1)*z by rw[Nat.add_mul,Nat.one_mul],i1]
    simp only[bp];congr 1
    apply Array.ext'
    simp[cells]
   ·cases y2<;>first|trivial| (simp[cV]at e3)
theorem Hj {P:Program} {a:Addr}:∀(xs ys:List Value) (i:Nat) (w:World),(storeCells a (xs++ys) i).run P w=((storeCells a xs i).run P w).andThen fun _ w'=>(storeCells a ys (i+xs.length)).run P w'
 | [],ys,i,w=>by simp[storeCells]
 |x::xs,ys,i,w=>by
  simp only[List.cons_append,storeCells,Sem.run_bind];cases hv:(store (a.add i) x).run P w with
  |halt y w1=>simp[Result.andThen]
  |ok u w1=>
   simp only[Result.andThen_ok];rw[Hj xs ys (i+1),show i+1+xs.length=i+(xs.length+1) by omega]
   rfl
theorem Bs {a:Addr} (h:a.spot=none) (k:Nat):∀(xs:List Value) (i:Nat),storeCells (a.add k) xs i=storeCells a xs (k+i)
 | [],i=>rfl
 |x::xs,i=>by
  simp only[storeCells,add_add h,Bs h k xs (i+1)];rfl
theorem D1 {P:Program} {K:Nat->Prop} {t z:Nat} {v:V} {a:Addr} {len cap:Nat} (hz:oZ P t=some z) (hk:ok K v) (hd:den J v= .slice (some a) len cap):
  ∀(l:List V) (j:Nat) (res res':List aK) (w:World),bq J fps res K w0 F0 w->wrE P t z v j l res=some res'->fM K l->∃w',(storeCells a (bp J l) (j*z)).run P w= .ok () w'/\bq J fps res' K w0 F0 w'/\∀i,known res' i↔known res i
 | [],j,res,res',w,h,hl,_=>by
   simp only[wrE,aaV]at hl;subst hl;exact⟨w,by simp[bp,storeCells],h,fun _=>Iff.rfl⟩
 |y::l,j,res,res',w,h,hl,ho=>by
  simp only[wrE]at hl;split at hl
  case h_2=>simp at hl
  rename_i p hp;split at hl
  case h_2=>simp at hl
  rename_i res1 hr;obtain⟨p1,p2,p3⟩:=HW hp hk hd;obtain⟨w1,e1,e2,e3⟩:=qQ h hr p3 ho.1;obtain⟨w2,i1,i2,i3⟩:=D1 hz hk hd l (j+1) res1 res' w1 e2 hl ho.2;have hlen:=bg J y ho.1
  have hy:fg y=z:=by
   simp_all[p6]
  rw[hy]at hlen;have hsz:(den J y).cells.size=z:=by rw[<-hlen];simp[cells]
  rw[p2]at e1;simp only[Instr.storeAt,Instr.sureAddr,Sem.run_bind,Sem.run_pure,Result.andThen_ok,storeVar,gz w hz,hsz,ne_eq,not_true_eq_false,if_false,Sem.run_ite]at e1;refine⟨w2,?_,i2,fun i=>(i3 i).trans (e3 i)⟩
  rw[Bs p1,Nat.add_zero]at e1;simp only[bp];rw[Hj,show(den J y).cells.toList.length=z from hlen];rw[show(storeCells a (den J y).cells.toList (j*z)).run P w= .ok () w1 from e1,Result.andThen_ok];rw[show j*z+z=(j+1)*z by rw[Nat.add_mul,Nat.one_mul]]
  exact i1
theorem KA {C:Ctx} {res:List aK} {K:Nat->Prop} {ts:List Nat} {xs:List V} {ty:Nat} {r:V} {res':List aK} (h:bq J fps res K w0 F0 w) (hl:cpA C res ts xs=some (r,res')) (hx:fM K xs):
  ∃w',(Builtin.copy_ ts.toArray ty (bB J xs).toArray).run C.P w= .ok (den J r) w'/\bq J fps res' K w0 F0 w'/\(∀i,known res' i↔known res i)/\ok K r:=by
 unfold cpA at hl;split at hl
 ·simp_all[OH]
 ·unfold cpK at hl;split at hl
  case h_2=>simp at hl
  rename_i t t' d s;split at hl
  case h_2=>simp at hl
  rename_i e ht;split at hl
  case h_2=>simp at hl
  rename_i z a n m hz hag hn hm;split at hl
  case isFalse=>simp at hl
  rename_i hc;simp only[aaX,aaY]at hc;obtain⟨rfl,hin⟩:=hc;split at hl
  case h_2=>simp at hl
  rename_i l hr;split at hl<;>simp only[aaV,aaW,reduceCtorEq]at hl
  rename_i res1 hw;obtain⟨rfl,rfl⟩:=hl;obtain⟨hxd,hxs,_⟩:=hx;obtain⟨ad,cd,hd⟩:=Is (J:=J) hn;obtain⟨as,cs,hs⟩:=Is (J:=J) hm;obtain⟨r1,r2,r3⟩:=EG h hag hz hxs hs _ _ _ hr;obtain⟨w',e1,e2,e3⟩:=D1 hz hxd hd l 0 res res1 w h hw r2;refine⟨w',?_,e2,e3,hin⟩;have r1:=r1 #[];simp only[Nat.zero_mul,Array.empty_append]at r1 e1;simp only[bB,hd,hs,Builtin.copy_,List.size_toArray,List.getElem?_toArray]
  simp only[List.getElem?_cons_zero,List.getElem?_cons_succ,Sem.run_bind,bG w ht,Result.andThen_ok,Builtin.lenOf,Sem.run_pure,gz w hz,Builtin.firstCells,loadCells,r1,e1,goInt,den]
theorem lJ.after {U:St} {ρ':Env} {fps':Nat->Nat->Prop} {res':List aK} {w':World} (h:lJ J fps U w0 F0 a w) (hH:bq ρ' fps' res' (known res') w0 F0 w') (hg:Good J U.res ρ' res'):
  lJ ρ' fps' {U with res:=res'} w0 F0 a w':=by
 obtain⟨h1,h2,h3,h4⟩:=h;obtain⟨e1,e2⟩:=fI h4 hg.1 hg.2;exact⟨h1.env hg.2 hg.1,hH,by rw[h3];exact e1.symm,e2⟩
def Dv (P:Program) (Y:dQ) (ρ0:Env) (res0:List aK):Prop:=
 ∀k args res K KP,Y k args res K KP->∀J fps w0 F0 w,Good ρ0 res0 J res->bq J fps res (known res) w0 F0 w->known res k->fM (known res) args->
  ∃l fn tmps assign body,(Instr.yield (J.num k) (bB J args).toArray).run P w= .ok (.round l fn tmps assign body) w/\
   ∀ro,RoundIn (FF P ro) 0 P l fn tmps assign body w fun e w'=>∃x ρ' fps' res',bq ρ' fps' res' (known res') w0 F0 w'/\Good J res ρ' res'/\ok (known res') x/\
    ((e= .returned (den ρ' x)/\K x res')\/(e= .panicked [{v:=den ρ' x,recovered:=false}]/\KP x res'))
theorem Dv.DZ {P:Program} {Y:dQ} {ρ0 ρ1:Env} {res0 res1:List aK} (h:Dv P Y ρ0 res0) (hg:Good ρ0 res0 ρ1 res1):Dv P Y ρ1 res1:=
 fun k args res K KP hy J fps w0 F0 w hg1=>h k args res K KP hy J fps w0 F0 w (hg.trans hg1)
theorem Wj {P:Program} {ρ0:Env} {res0:List aK}:Dv P noY ρ0 res0:=fun _ _ _ _ _ h=>h.elim
theorem HQ {o:Oper} {U:St} {ch:List (Nat×Bool)} {q:Option Prop} {x:V} {new:List aK} {K:St->Prop} {next:Act->World->Prop} {Q:Exit->Act->World->Prop} {ro:Option Nat} (hC:C.Sound)
  (ho:Ck C U.slots U.res U.res.length ch o.op=some (q,x,new)) (hg:mQ U.slots ch=true) (h:qa U.slots o.dst (.v x) fun sl=>D0 q (K {U with slots:=sl,res:=oS U.res new})) (hr:lJ J fps U w0 F0 a w)
  (hn:∀σ' ρ' fps' a' w',K σ'->lJ ρ' fps' σ' w0 F0 a' w'->Good J U.res ρ' σ'.res->next a' w'):o.uponIn (FF C.P ro) 0 C.P a next Q ((execOp a.eval o).run C.P w):=by
 obtain⟨h1,h2,h3,h4⟩:=hr;rw[lD]at h;split at h
 ·rename_i sl hsl;obtain⟨hq,hK⟩:=qH h;have hfr:∀k,k<new.length->¬known U.res (U.res.length+k):=fun k _ hk=>by have:=aO hk;omega
  obtain⟨hy,hnew⟩:=nk hC ho h1 h2 hg hq hfr;refine hy.wp fun v w' ⟨ρ',hg,hv,hx⟩=>?_
  have hfr':∀i,known U.res i->¬fresh U.res.length new.length i:=fun i hi hf=>by have:=aO hi;unfold fresh at hf;omega
  have hK':∀i,known U.res i\/fresh U.res.length new.length i->known (oS U.res new) i:=by
   intro i hi;rw[rV];obtain⟨b1,b2,b3⟩:=k8 U.res new;rcases hi with hi|⟨f1,f2⟩
   ·unfold known;rw[(b1 i hi).1];exact hi
   ·have:=b3 (i-U.res.length) (by omega)
    rw[show U.res.length+(i-U.res.length)=i by omega]at this
    unfold known;rw[this];exact hnew _ (by omega)
  obtain⟨fps',g1,g2⟩:=h2.grow (res':=oS U.res new) (by rw[rV];exact k8 _ _) hfr' hK' hg
  obtain⟨e1,e2⟩:=fI h4 g2 (fun i hi=>hK' i (.inl hi))
  refine hn _ ρ' fps' _ _ hK ⟨?_,g1,by rw[put_defers,h3];exact e1.symm,e2⟩ ⟨g2,fun i hi=>hK' i (.inl hi)⟩
  exact(h1.env (fun i hi=>hK' i (.inl hi)) g2).oL hsl fun _ _ _ _=>⟨hv,ec hK' _ hx⟩
 ·exact h.elim
theorem AU {H:Handler} {Y:dQ} {o:Oper} {U:St} {ch:List (Nat×Bool)} {K:St->Prop} {KP:V->St->Prop} {next:Act->World->Prop} {Q:Exit->Act->World->Prop} {ro:Option Nat} (hC:C.Sound) (hH:H.OK C.P) (hY:Dv C.P Y J U.res)
  (hd:ro≠none->eI o) (hab:∀f,o.about C.P w a.eval=some f->(C.P.funcs[f]?).isSome=true) (h:Sh C H Y U ch o K KP) (hg:mQ U.slots ch=true) (hr:lJ J fps U w0 F0 a w)
  (hn:∀σ' ρ' fps' a' w',K σ'->lJ ρ' fps' σ' w0 F0 a' w'->Good J U.res ρ' σ'.res->next a' w')
  (hp:∀v σ' ρ' fps' w',KP v σ'->ok (known σ'.res) v->lJ ρ' fps' σ' w0 F0 a w'->Good J U.res ρ' σ'.res->Q (.panic [{v:=den ρ' v,recovered:=false}]) a w'):
  o.wpIn (FF C.P ro) 0 C.P a w next Q:=by
 have hr0:=hr;obtain⟨h1,h2,h3,h4⟩:=hr;have ov:∀{o:Operand} {y:V},fm U.slots ch o=some y->a.eval o=den J y/\ok (known U.res) y:=fun ho=>h9 h1 hg ho
 obtain⟨dst,op,type,pos,after,guard⟩:=o;cases op<;>simp only[Sh]at h
 case store t p x=>
  split at h
  ·rename_i pv xv hpv hxv;split at h
   ·rename_i res' hs;obtain⟨w',e1,e2,e3⟩:=qQ h2 hs (ov hpv).2 (ov hxv).2
    have hrun:(execOp a.eval {dst:=none,op:= .store t p x,type,pos,after,guard}).run C.P w= .ok .skip w':=by
     simp[execOp,(ov hpv).1,(ov hxv).1,e1]
    refine eT hd hab ?_;rw[hrun]
    refine hn _ J fps _ _ h ⟨?_,e2.vz fun i hi=>(e3 i).2 hi,h3,fun d hd=>⟨dt (fun i hi=>(e3 i).2 hi) _ (h4 d hd).1,dt (fun i hi=>(e3 i).2 hi) _ (h4 d hd).2⟩⟩
     ⟨Env.bE.refl _ _,fun i hi=>(e3 i).2 hi⟩
    exact h1.env (fun i hi=>(e3 i).2 hi) (Env.bE.refl _ _)
   ·split at h
    ·rename_i q res' hs;obtain⟨hq,hK⟩:=qH h;obtain⟨w',ρ',fps',e1,e2,e3,e4⟩:=DO h2 hs hq (ov hpv).2 (ov hxv).2
     have hrun:(execOp a.eval {dst:=none,op:= .store t p x,type,pos,after,guard}).run C.P w= .ok .skip w':=by
      simp[execOp,(ov hpv).1,(ov hxv).1,e1]
     refine eT hd hab ?_;rw[hrun];obtain⟨d1,d2⟩:=fI h4 e3 e4;exact hn _ ρ' fps' _ _ hK ⟨h1.env e4 e3,e2,by rw[show(a.put none undef).defers=a.defers from rfl,h3];exact d1.symm,d2⟩ ⟨e3,e4⟩
    ·exact h.elim
  ·exact h.elim
 case insert t m k x=>
  split at h
  case h_2=>exact h.elim
  rename_i mv kv xv hmv hkv hxv
  obtain⟨res',hs,h⟩:∃res',(TO C.P U.res t mv kv xv=some res'\/UE C.P U.res t mv kv xv=some res')/\K {U with res:=res'}:=by
   grind
  obtain⟨w',e1,e2,e3⟩:∃w',(Instr.mapUpdate t (den J mv) (den J kv) (den J xv)).run C.P w= .ok () w'/\bq J fps res' (known U.res) w0 F0 w'/\∀i,known res' i↔known U.res i:=by
   grind[Js,Ju]
  have hrun:(execOp a.eval {dst:=none,op:= .insert t m k x,type,pos,after,guard}).run C.P w= .ok .skip w':=by
   simp[execOp,(ov hmv).1,(ov hkv).1,(ov hxv).1,e1]
  refine eT hd hab ?_;rw[hrun]
  refine hn _ J fps _ _ h ⟨?_,e2.vz fun i hi=>(e3 i).2 hi,h3,fun d hd=>⟨dt (fun i hi=>(e3 i).2 hi) _ (h4 d hd).1,dt (fun i hi=>(e3 i).2 hi) _ (h4 d hd).2⟩⟩
   ⟨Env.bE.refl _ _,fun i hi=>(e3 i).2 hi⟩
  exact h1.env (fun i hi=>(e3 i).2 hi) (Env.bE.refl _ _)
 case panic x=>
  split at h
  ·rename_i t y hx;obtain⟨e1,e2⟩:=ov hx
   have hrun:(execOp a.eval {dst,op:= .panic x,type,pos,after,guard}).run C.P w= .halt (.panic (den J (.ic t y))) w:=by
    simp[execOp,e1,den,Instr.panic]
   refine eT hd hab ?_;rw[hrun];exact hp _ _ J fps w h e2 ⟨h1.clean,h2,h3,h4⟩ (Good.refl _ _)
  ·exact h.elim
 case call c=>
  split at h
  ·rename_i f hf
   have fnCall:∀(g:Nat) (caps vs:List V),a.eval f=FC g (bB J caps)->fM (known U.res) caps->mT U.slots ch c.args.toList=some vs->iP C.P (FA g)=true->H (FA g) (Uq g vs caps) U.res
     (fun x res'=>qa U.slots dst (.v x) fun sl=>K {U with slots:=sl,res:=res'}) (fun x res'=>KP x {U with slots:=clean U.slots,res:=res'})->Oper.wpIn (FF C.P ro) 0 C.P ⟨dst,.call c,type,pos,after,guard⟩ a w next Q:=by
    intro g caps vs e1 e2' has hcall hh;obtain⟨e3,e4⟩:=gO h1 hg has;have hca:=hH _ _ _ _ _ hh J fps w0 F0 w h2 (WZ e4 e2')
    have hrun:(execOp a.eval {dst,op:= .call c,type,pos,after,guard}).run C.P w= .ok (.enter (FA g) (bB J (Uq g vs caps)).toArray) w:=by
     obtain⟨callee,args,argTypes⟩:=c;simp only at hf;subst hf;unfold iP at hcall;split at hcall
     ·rename_i fn hfn;simp only[aaX,bne_iff_ne,ne_eq]at hcall;have hnm:(fn.name== "runtime.NumGoroutine")=false:=by simpa using hcall.1
      have hbd:fn.body.isNone=false:=by
       simp_all
      have ha:args.map a.eval=(bB J vs).toArray:=by apply Array.ext';simp[e3]
      unfold FC at e1;unfold FA at hfn⊢;unfold Uq;cases hlo:Nat.blt g 2000 with
      |true=>
       simp only[hlo,if_true]at e1 hfn⊢;have hcat:(bB J vs).toArray++(bB J caps).toArray=(bB J (vs++caps)).toArray:=by simp[jD]
       simp only[execOp,resolve,e1,den,Deferred.ofValue,ha,Sem.run_bind,Sem.run_pure,Result.andThen_ok,invoke,callFunc,run_program,hfn,hnm,Bool.false_eq_true,if_false,hbd,
        Array.empty_append,hcat]
      |false=>
       simp only[hlo,Bool.false_eq_true,if_false]at e1 hfn⊢;have hcat:(bB J caps).toArray++(bB J vs).toArray=(bB J (caps++vs)).toArray:=by simp[jD]
       simp only[execOp,resolve,e1,den,Deferred.ofValue,ha,Sem.run_bind,Sem.run_pure,Result.andThen_ok,invoke,callFunc,run_program,hfn,hnm,Bool.false_eq_true,if_false,hbd,
        Array.append_empty,hcat]
     ·simp at hcall
    refine eT hd hab ?_;rw[hrun];refine⟨fun h=>by simp[FF]at h,CallsIn.mono (Ag hca) fun e w' ⟨x,ρ',fps',res',g1,g2,g3,g4⟩=>?_⟩
    have hra:=hr0.after g1 g2;rcases g4 with⟨rfl,hK⟩|⟨rfl,hK⟩
    ·simp only;rw[lD]at hK;split at hK
     ·rename_i sl hsl;obtain⟨k1,k2,k3,k4⟩:=hra;exact hn _ ρ' fps' _ _ hK ⟨k1.oL hsl fun _ _ _ _=>⟨rfl,g3⟩,k2,by rw[put_defers];exact k3,k4⟩ g2
     ·exact hK.elim
    ·obtain⟨k1,k2,k3,k4⟩:=hra;exact hp _ _ ρ' fps' w' hK g3 ⟨k1.clean,k2,k3,k4⟩ g2
   split at h
   ·rename_i g caps vs hfv has;obtain⟨e1,e2⟩:=ov hfv;exact fnCall g caps vs e1 e2 has h.1 h.2
   ·rename_i b g caps y vs hfv has;obtain⟨e1,e2⟩:=ov hfv;obtain⟨g',caps',d1,d2,d3,d4⟩:=xm (J:=J) _ h e2;exact fnCall g' caps' vs (e1.trans d1) d2 has d3 d4
   ·rename_i k vs hfv has;obtain⟨e1,e2⟩:=ov hfv;obtain⟨e3,e4⟩:=gO h1 hg has;obtain⟨l,fn,tmps,assign,body,y1,y2⟩:=hY _ _ _ _ _ h J fps w0 F0 w (Good.refl _ _) h2 e2 e4;refine⟨hab,?_⟩
    have hsem:Oper.semAt (FF C.P ro).round a.eval {dst,op:= .call c,type,pos,after,guard}=execOp a.eval {dst,op:= .call c,type,pos,after,guard}:=by
     show Oper.semAt ro _ _=_
     cases ro with
     |none=>exact Oper.semAt_none _ _
     |some l=>exact Oper.semAt_some l _ _ (fun c=>by simp)
    rw[hsem]
    have hrun:(execOp a.eval {dst,op:= .call c,type,pos,after,guard}).run C.P w= .ok (.round l fn tmps assign body) w:=by
     obtain⟨callee,args,argTypes⟩:=c;simp only at hf;subst hf;have ha:args.map a.eval=(bB J vs).toArray:=by apply Array.ext';simp[e3]
     simp only[execOp,resolve,e1,den,Deferred.ofValue,ha,Sem.run_bind,Sem.run_pure,Result.andThen_ok,invoke,callFunc,Array.empty_append,Array.append_empty];exact y1
    rw[hrun];refine⟨fun h=>by simp[FF]at h,RoundIn.mono (y2 ro) fun e w' ⟨x,ρ',fps',res',g1,g2,g3,g4⟩=>?_⟩
    have hra:=hr0.after g1 g2;rcases g4 with⟨rfl,hK⟩|⟨rfl,hK⟩
    ·simp only;rw[lD]at hK;split at hK
     ·rename_i sl hsl;obtain⟨k1,k2,k3,k4⟩:=hra;exact hn _ ρ' fps' _ _ hK ⟨k1.oL hsl fun _ _ _ _=>⟨rfl,g3⟩,k2,by rw[put_defers];exact k3,k4⟩ g2
     ·exact hK.elim
    ·obtain⟨k1,k2,k3,k4⟩:=hra;exact hp _ _ ρ' fps' w' hK g3 ⟨k1.clean,k2,k3,k4⟩ g2
   ·exact h.elim
  ·rename_i hcal;split at h
   ·rename_i t t' x y hts has;split at h
    ·rename_i htt;have htt:=aaZ.1 htt;subst htt;split at h
     ·rename_i q v res' hap;obtain⟨hq,hK⟩:=qH h;rw[lD]at hK;split at hK
      ·rename_i sl hsl;obtain⟨e3,e4⟩:=gO h1 hg has;obtain⟨w',ρ',fps',g1,g2,g3,g4,g5⟩:=J9 (ty:=type) hC.z h2 hap hq e4.1
       have hrun:(execOp a.eval {dst,op:= .call c,type,pos,after,guard}).run C.P w= .ok (.value (den ρ' v)) w':=by
        obtain⟨callee,args,argTypes⟩:=c;simp only at hcal hts e3;subst hcal;have ha:args.map a.eval= #[den J x,den J y]:=by apply Array.ext';simp[e3,bB]
        have hty:argTypes= #[t,t]:=by apply Array.ext';simpa using hts
        subst hty;simp only[execOp,resolve,Sem.run_bind,Sem.run_pure,Result.andThen_ok,invoke,builtin,ha];rw[g1];rfl
       refine eT hd hab ?_;rw[hrun];obtain⟨k1,k2,k3,k4⟩:=hr0.after g2 ⟨g3,g4⟩;exact hn _ ρ' fps' _ _ hK ⟨k1.oL hsl fun _ _ _ _=>⟨rfl,g5⟩,k2,by rw[put_defers];exact k3,k4⟩ ⟨g3,g4⟩
      ·exact hK.elim
     ·exact h.elim
    ·exact h.elim
   ·exact h.elim
  ·rename_i hcal;split at h
   case h_2=>exact h.elim
   rename_i vs has;split at h
   case h_2=>exact h.elim
   rename_i v res' hcp;rw[lD]at h;split at h
   case h_2=>exact h.elim
   rename_i sl hsl;obtain⟨e3,e4⟩:=gO h1 hg has;obtain⟨w',g1,g2,g3,g5⟩:=KA (ty:=type) h2 hcp e4
   have hrun:(execOp a.eval {dst,op:= .call c,type,pos,after,guard}).run C.P w= .ok (.value (den J v)) w':=by
    obtain⟨callee,args,argTypes⟩:=c;simp only at hcal e3;subst hcal;have ha:args.map a.eval=(bB J vs).toArray:=by apply Array.ext';simp[e3]
    simp only[execOp,resolve,Sem.run_bind,Sem.run_pure,Result.andThen_ok,invoke,builtin,ha];simp only[Array.toArray_toList]at g1;rw[g1];rfl
   refine eT hd hab ?_;rw[hrun];have hgd:Good J U.res J res':=⟨Env.bE.refl _ _,fun i hi=>(g3 i).2 hi⟩
   obtain⟨k1,k2,k3,k4⟩:=hr0.after (g2.vz fun i hi=>(g3 i).2 hi) hgd
   exact hn _ J fps _ _ h ⟨k1.oL hsl fun _ _ _ _=>⟨rfl,ec (fun i hi=>(g3 i).2 hi) _ g5⟩,k2,by rw[put_defers];exact k3,k4⟩ hgd
  ·rename_i hcal;split at h
   case h_2=>exact h.elim
   rename_i vs has;split at h
   case h_2=>exact h.elim
   rename_i res' hcp;rw[lD]at h;split at h
   case h_2=>exact h.elim
   rename_i sl hsl;obtain⟨e3,e4⟩:=gO h1 hg has;obtain⟨w',g1,g2,g3⟩:=Ki (ty:=type) hC.z h2 hcp e4
   have hrun:(execOp a.eval {dst,op:= .call c,type,pos,after,guard}).run C.P w= .ok (.value (den J (.tp []))) w':=by
    obtain⟨callee,args,argTypes⟩:=c;simp only at hcal e3;subst hcal;have ha:args.map a.eval=(bB J vs).toArray:=by apply Array.ext';simp[e3]
    simp only[execOp,resolve,Sem.run_bind,Sem.run_pure,Result.andThen_ok,invoke,builtin,ha];simp only[Array.toArray_toList]at g1;rw[g1];rfl
   refine eT hd hab ?_;rw[hrun];have hgd:Good J U.res J res':=⟨Env.bE.refl _ _,fun i hi=>(g3 i).2 hi⟩
   obtain⟨k1,k2,k3,k4⟩:=hr0.after (g2.vz fun i hi=>(g3 i).2 hi) hgd
   exact hn _ J fps _ _ h ⟨k1.oL hsl fun _ _ _ _=>⟨rfl,trivial⟩,k2,by rw[put_defers];exact k3,k4⟩ hgd
  ·exact h.elim
 case defer c=>
  split at h
  ·rename_i f hf;split at h
   ·rename_i g caps vs hfv has;obtain⟨e1,e2⟩:=ov hfv;obtain⟨e3,e4⟩:=gO h1 hg has;split at h
    case h_2=>exact h.elim
    rename_i hmk;split at h
    case isFalse=>exact h.elim
    rename_i hlo;have e1:a.eval f= .func (.func g) #[] (bB J caps).toArray:=e1.trans (zU hlo)
    have hrun:(execOp a.eval {dst:=none,op:= .defer c,type,pos,after,guard}).run C.P w= .ok (.defer {target:= .fn (.func g) (bB J caps).toArray,args:=(bB J vs).toArray}) w:=by
     obtain⟨callee,args,argTypes⟩:=c;simp only at hf;subst hf;have ha:args.map a.eval=(bB J vs).toArray:=by apply Array.ext';simp[e3]
     simp[execOp,resolve,e1,den,Deferred.ofValue,ha]
    refine eT hd hab ?_;rw[hrun];refine hn _ J fps _ _ h ⟨h1,h2,by simp[Act.put,h3,lN,hmk],fun d hd=>?_⟩ (Good.refl _ _)
    rcases List.mem_cons.1 hd with rfl|hd
    ·exact⟨e4,e2⟩
    ·exact h4 d hd
   ·exact h.elim
  ·exact h.elim
theorem D9 (ch:List (Nat×Bool)):∀(l:List S) (i t:Nat),b9 (Hm ch i l) t=Cg ch (i+t) (b9 l t)
 | [],i,t=>by simp[Hm,b9,Cg]
 |s::l,i,0=>by simp[Hm,b9]
 |s::l,i,t+1=>by simp only[Hm,b9];rw[D9 ch l (i+1) t,show i+1+t=i+(t+1) by omega]
theorem zQ (ch:List (Nat×Bool)):∀(l:List S) (i:Nat),(Hm ch i l).length=l.length
 | [],_=>rfl
 |s::l,i=>by simp[Hm,zQ ch l]
theorem Bv (q:Nat) (w:Bool):∀(l:List S) (i t:Nat),b9 (D7 q w i l) t=fixF q w (i+t) (b9 l t)
 | [],i,t=>by simp[D7,b9,fixF]
 |s::l,i,0=>by simp[D7,b9]
 |s::l,i,t+1=>by simp only[D7,b9];rw[Bv q w l (i+1) t,show i+1+t=i+(t+1) by omega]
theorem xf (q:Nat) (w:Bool):∀(l:List S) (i:Nat),(D7 q w i l).length=l.length
 | [],_=>rfl
 |s::l,i=>by simp[D7,xf q w l]
theorem yL:∀{ch:List (Nat×Bool)} {i:Nat} {w:Bool},xA ch i=some w->(i,w)∈ch
 | [],_,_,h=>by simp[xA]at h
 | (s,v)::c,i,w,h=>by
   simp only[xA]at h;split at h
   ·rename_i e;have e:=aaZ.1 e;simp only[aaV]at h;subst e;subst h;simp
   ·exact List.mem_cons_of_mem _ (yL h)
theorem Nz {sl:List S} {ch:List (Nat×Bool)} (hg:mQ sl ch=true) (t:Nat):raw (Cg ch t (b9 sl t))=raw (b9 sl t):=by
 have key:∀w,xA ch t=some w->raw (b9 sl t)=some w:=fun w hw=>(yp sl ch).1 hg (t,w) (yL hw)
 cases hs:b9 sl t with
 |und=>rfl
 |ud=>rfl
 |v y=>
  rw[hs]at key;cases y<;>try rfl
  simp only[Cg];cases hw:xA ch t with
  |none=>rfl
  |some w=>exact(key w hw).symm
 |gv c y=>
  rw[hs]at key;simp only[Cg];split
  ·cases y<;>try rfl
   simp only;cases hw:xA ch t with
   |none=>rfl
   |some w=>exact(key w hw).symm
  ·rfl
theorem C4 {sl sl':List S} (h:∀t,raw (b9 sl' t)=raw (b9 sl t)):∀c,mQ sl' c=mQ sl c
 | []=>rfl
 | (s,w)::c=>by rw[ji,ji,h,C4 h c]
theorem jo.Hm {K:Nat->Prop} {sl:List S} {ch:List (Nat×Bool)} (h:jo J K sl a) (hg:mQ sl ch=true):jo J K (Hm ch 0 sl) a:=by
 have hget:∀t,b9 (Sx.Hm ch 0 sl) t=Cg ch t (b9 sl t):=fun t=>by rw[D9,Nat.zero_add]
 have hraw:∀t,raw (b9 (Sx.Hm ch 0 sl) t)=raw (b9 sl t):=fun t=>by rw[hget,Nz hg]
 refine⟨by rw[zQ];exact h.1,fun t=>?_⟩
 rw[hget];have ht:=h.2 t;have key:∀w,xA ch t=some w->raw (b9 sl t)=some w:=fun w hw=>(yp sl ch).1 hg (t,w) (yL hw)
 cases hs:b9 sl t with
 |und=>trivial
 |ud=>rw[hs]at ht;exact ht
 |v y=>
  rw[hs]at ht key;cases y<;>try exact ht
  simp only[Cg];cases hw:xA ch t with
  |none=>exact ht
  |some w=>
   have:=key w hw;simp only[raw,aaV]at this;subst this;exact ht
 |gv c y=>
  rw[hs]at ht key;simp only[Cg];split
  ·rename_i hsub;obtain⟨e1,e2⟩:=ht.1 (HD hsub hg);cases y<;>try exact⟨e1,e2⟩
   simp only;cases hw:xA ch t with
   |none=>exact⟨e1,e2⟩
   |some w=>
    have:=key w hw;simp only[raw,aaV]at this;subst this;exact⟨e1,e2⟩
  ·exact⟨fun hgc=>ht.1 (by rwa [C4 hraw]at hgc),fun hgc=>ht.2 (by rwa [C4 hraw]at hgc)⟩
theorem jo.slF {K:Nat->Prop} {sl:List S} {ch:List (Nat×Bool)} (h:jo J K sl a) (hg:mQ sl ch=false):jo J K (slF ch sl) a:=by
 unfold Sx.slF;split
 ·rename_i q w;split
  ·rename_i b hq
   have hb:b= !w:=by
    grind[ji,raw,mQ]
   refine⟨by rw[xf];exact h.1,fun t=>?_⟩
   rw[Bv,Nat.zero_add];have ht:=h.2 t;cases hs:b9 sl t with
   |und=>trivial
   |ud=>rw[hs]at ht;exact ht
   |v y=>
    rw[hs]at ht;cases y<;>try exact ht
    simp only[fixF];split
    ·rename_i e;have e:=aaZ.1 e;subst e;rw[hq]at hs;simp only[S.v.injEq,V.bo.injEq]at hs;subst hs;rw[<-hb];exact ht
    ·exact ht
   |gv c y=>
    rw[hs]at ht;simp only[fixF];split
    ·rename_i hc;refine ht.2 ?_;cases hgc:mQ sl c with
     |false=>rfl
     |true=>
      simp only[Hz,List.any_eq_true,aaX,aaZ]at hc;obtain⟨p,hp,e1,e2⟩:=hc;have:=(yp sl c).1 hgc p hp;rw[e1,e2,hq]at this;simp only[raw,aaV]at this;rw[this]at hb;cases w<;>simp at hb
    ·trivial
  ·exact h
 ·exact h
theorem mg {H:Handler} {Y:dQ} {ops:Array Oper} {o:Oper} {U:St} {K:St->Prop} {KP:V->St->Prop} {next:Act->World->Prop} {Q:Exit->Act->World->Prop} {ro:Option Nat} (hC:C.Sound) (hH:H.OK C.P) (hY:Dv C.P Y J U.res)
  (hd:ro≠none->eI o) (h:zg C H Y ops.toList o U K KP) (hr:lJ J fps U w0 F0 a w)
  (hn:∀σ' ρ' fps' a' w',K σ'->lJ ρ' fps' σ' w0 F0 a' w'->Good J U.res ρ' σ'.res->next a' w')
  (hp:∀v σ' ρ' fps' w',KP v σ'->ok (known σ'.res) v->lJ ρ' fps' σ' w0 F0 a w'->Good J U.res ρ' σ'.res->Q (.panic [{v:=den ρ' v,recovered:=false}]) a w'):
  (∀f,o.about C.P w a.eval=some f->(FF C.P ro).fn f)/\if Region.wanted o (yielded ops a.tmps)then o.wpIn (FF C.P ro) 0 C.P a w next Q else next (a.put o.dst undef) w:=by
 have hr0:=hr;obtain⟨h1,h2,h3,h4⟩:=hr
 have skip:(qa U.slots o.dst .ud fun sl=>K {U with slots:=sl})->next (a.put o.dst undef) w:=fun h=>by
  rw[lD]at h;split at h
  ·rename_i sl hsl;exact hn _ J fps _ _ h ⟨h1.oL hsl fun _ _ _ _=>rfl,h2,by rw[put_defers];exact h3,h4⟩ (Good.refl _ _)
  ·exact h.elim
 unfold zg at h;split at h
 case isFalse=>exact h.elim
 rename_i hab;have hab:=Fx h1 hab w;refine⟨hab,?_⟩;split at h
 ·exact h.elim
 ·rename_i hc;rw[mW h1 hc];simp only[xE,Bool.false_eq_true,if_false];exact skip h
 ·rename_i ch hc;rw[mW h1 hc];rw[show xE U.slots (some ch)=mQ U.slots ch from rfl];split at h
  ·rename_i q x new ho;split at h
   ·rename_i hch;have hch:ch= []:=by simpa using hch
    subst hch;simp only[mQ,if_true];exact eT hd hab (HQ hC ho rfl h hr0 hn)
   ·split at h
    ·rename_i hne;have hne:new= []:=by simpa using hne
     subst hne;rw[lD]at h;split at h
     ·rename_i sl hsl;obtain⟨hq,hK⟩:=EM h;by_cases hgo:mQ U.slots ch=true
      ·rw[aa4 hgo];obtain⟨hy,_⟩:=nk hC ho h1 h2 hgo (hq hgo) fun k hk=>by simp at hk
       refine eT hd hab (hy.wp fun v w' ⟨ρ',hg,hv,hx⟩=>?_)
       have hfr':∀i,known U.res i->¬fresh U.res.length ([]:List aK).length i:=fun i hi hf=>by unfold fresh at hf;simp at hf;omega
       have hK':∀i,known U.res i\/fresh U.res.length ([]:List aK).length i->known U.res i:=fun i hi=>by
        grind[fresh]
       obtain⟨fps',g1,g2⟩:=h2.grow (res':=U.res) (by have:=k8 U.res [];simpa using this) hfr' hK' hg
       obtain⟨e1,e2⟩:=fI h4 g2 (fun i hi=>hi)
       refine hn _ ρ' fps' _ _ hK ⟨?_,g1,by rw[put_defers,h3];exact e1.symm,e2⟩ ⟨g2,fun i hi=>hi⟩
       refine(h1.env (fun i hi=>hi) g2).oL hsl fun d hd hf hnm=>⟨fun _=>⟨hv,ec hK' _ hx⟩,fun hgf=>?_⟩
       rw[vO (hnm ch x rfl),hgo]at hgf;simp at hgf
      ·rw[aa3 hgo];refine hn _ J fps _ _ hK ⟨?_,h2,by rw[put_defers];exact h3,h4⟩ (Good.refl _ _)
       refine h1.oL hsl fun d hd hf hnm=>⟨fun hgt=>?_,fun _=>rfl⟩
       rw[vO (hnm ch x rfl)]at hgt;exact absurd hgt hgo
     ·exact h.elim
    ·obtain⟨ht,hf⟩:=h;split
     ·rename_i hgo;exact eT hd hab (HQ hC ho hgo (ht hgo) hr0 hn)
     ·rename_i hgo;exact skip (hf (by simpa using hgo))
  ·split at h
   ·grind[mQ,AU]
   ·obtain⟨ht,hf⟩:=h;simp only[uK]at ht hf;split
    ·rename_i hgo;exact AU (U:= {U with slots:=Hm ch 0 U.slots}) hC hH hY hd hab (ht hgo) rfl ⟨h1.Hm hgo,h2,h3,h4⟩ hn hp
    ·rename_i hgo;have hf:=hf (by simpa using hgo)
     rw[lD]at hf;split at hf
     ·rename_i sl hsl;exact hn _ J fps _ _ hf ⟨(h1.slF (by simpa using hgo)).oL hsl fun _ _ _ _=>rfl,h2,by rw[put_defers];exact h3,h4⟩ (Good.refl _ _)
     ·exact hf.elim
end
def jF:List Prop->Prop
 | []=>True
 | [p]=>p
 |p::l=>p/\jF l
theorem vQ:∀l:List Prop,jF l↔ ∀p∈l,p
 | []=>by simp[jF]
 | [p]=>by simp only[jF,List.mem_singleton];exact⟨fun h q hq=>hq▸h,fun h=>h p rfl⟩
 |p::q::l=>by
  have:=vQ (q::l);simp only[jF,List.mem_cons,forall_eq_or_imp]at this⊢;rw[this]
def qz (a b:Option (List Prop)):Option (List Prop):=
 match a,b with
 |some x,some y=>some (x++y)
 |_,_=>none
def nT (b:Bool) (l:List Prop):Option (List Prop):=if b then some l else none
mutual
def xx:V->V->Option (List Prop)
 | .cb a,.cb b=>some [a=b]
 | .cb a,.bo b=>some [a=b]
 | .bo a,.cb b=>some [a=b]
 | .bo a,.bo b=>some [a=b]
 | .ci k a,.ci k' b=>nT (k==k'&&decide (a=b)) []
 | .ci k a,.it k' b=>nT (k==k') [a=b]
 | .it k a,.ci k' b=>nT (k==k') [a=b]
 | .it k a,.it k' b=>nT (k==k') [a=b]
 | .bt a,.bt b=>some [a=b]
 | .st a,.st b=>some [a=b]
 | .nl a,.nl b=>some [a=b]
 | .lp i o,.lp i' o'=>nT (i==i'&&o==o') []
 | .lx a b c d i e,.lx a' b' c' d' i' e'=>nT (a==a'&&b==b'&&c==c'&&e==e') [d=d',i=i']
 | .sc i n c,.sc i' n' c'=>nT (i==i') [n=n',c=c']
 | .so i n,.so i' n'=>nT (i==i') [n=n']
 | .ap i e j o,.ap i' e' j' o'=>nT (i==i'&&e==e'&&o==o') [j=j']
 | .sa i,.sa i'=>nT (i==i') []
 | .op i n,.op i' n'=>nT (i==i') [n=n']
 | .yl i,.yl i'=>nT (i==i') []
 | .fn f l,.fn g m=>if f==g then sY l m else none
 | .ic t x,.ic u y=>if t==u then xx x y else none
 | .ag l,.ag m=>sY l m
 | .tp l,.tp m=>sY l m
 | .key a,.key b=>some [a=b]
 | .sl a,.sl b=>some [a=b]
 | .by a,.by b=>some [a=b]
 | .ob a,.ob b=>some [a=b]
 |_,_=>none
def sY:List V->List V->Option (List Prop)
 | [],[]=>some []
 |x::l,y::m=>qz (xx x y) (sY l m)
 |_,_=>none
end
def ub (J:Env) (K:Nat->Prop) (x y:V):Prop:=den J x=den J y/\(ok K x->ok K y)/\cV x=cV y
def aal (J:Env) (K:Nat->Prop) (x y:List V):Prop:=bB J x=bB J y/\bp J x=bp J y/\(fM K x->fM K y)/\(ti x->ti y)
theorem ub.refl (J:Env) (K:Nat->Prop) (x:V):ub J K x x:=⟨rfl,id,rfl⟩
theorem kN {a b:Option (List Prop)} {l:List Prop} (h:qz a b=some l) (hl:jF l):∃x y,a=some x/\b=some y/\jF x/\jF y:=by
 unfold qz at h;split at h<;>simp only[aaV,reduceCtorEq]at h
 rename_i x y;subst h;rw[vQ]at hl;exact⟨x,y,rfl,rfl,(vQ x).2 fun p hp=>hl p (List.mem_append.2 (.inl hp)),(vQ y).2 fun p hp=>hl p (List.mem_append.2 (.inr hp))⟩
theorem gq {b:Bool} {l m:List Prop} (h:nT b l=some m):b=true/\m=l:=by
 unfold nT at h;split at h<;>simp_all
mutual
theorem qO (J:Env) (K:Nat->Prop):∀(x y:V) (l:List Prop),xx x y=some l->jF l->ub J K x y
 | .fn f l,y,m,h,hl=>by
   cases y<;>simp only[xx,reduceCtorEq]at h
   split at h
   ·rename_i he;have he:=aaZ.1 he;subst he;obtain⟨a,_,c,_⟩:=np J K _ _ _ h hl;exact⟨by simp only[den,a],c,rfl⟩
   ·simp at h
 | .ic t x,y,m,h,hl=>by
   cases y<;>simp only[xx,reduceCtorEq]at h
   split at h
   ·rename_i he;have he:=aaZ.1 he;subst he;obtain⟨a,c,_⟩:=qO J K _ _ _ h hl;exact⟨by simp only[den,a],c,rfl⟩
   ·simp at h
 | .ag l,y,m,h,hl=>by
   cases y<;>simp only[xx,reduceCtorEq]at h
   obtain⟨_,b,c,d⟩:=np J K _ _ _ h hl;exact⟨by simp only[den,b],fun hh=>⟨c hh.1,d hh.2⟩,rfl⟩
 | .tp l,y,m,h,hl=>by
   cases y<;>simp only[xx,reduceCtorEq]at h
   obtain⟨a,_,c,_⟩:=np J K _ _ _ h hl;exact⟨by simp only[den,a],c,rfl⟩
 | .lp i o,y,m,h,hl=>by
   cases y<;>simp only[xx,reduceCtorEq]at h
   obtain⟨hb,rfl⟩:=gq h;simp only[aaX,aaZ]at hb;obtain⟨rfl,rfl⟩:=hb;exact ub.refl _ _ _
 | .ax _ _ _ _ _ _ _ _,y,m,h,hl=>by cases y<;>simp[xx]at h
 | .bs _ _ _,y,m,h,hl=>by cases y<;>simp[xx]at h
 | .ks _ _ _ _ _,y,m,h,hl=>by cases y<;>simp[xx]at h
 | .sa i,y,m,h,hl=>by
   cases y<;>simp only[xx,reduceCtorEq]at h
   obtain⟨hb,rfl⟩:=gq h;have hb:=aaZ.1 hb;subst hb;exact ub.refl _ _ _
 | .yl i,y,m,h,hl=>by
   cases y<;>simp only[xx,reduceCtorEq]at h
   obtain⟨hb,rfl⟩:=gq h;have hb:=aaZ.1 hb;subst hb;exact ub.refl _ _ _
 | .lx a b c d i e,y,m,h,hl=>by
   cases y<;>simp only[xx,reduceCtorEq]at h
   obtain⟨hb,rfl⟩:=gq h;simp only[aaX,aaZ]at hb;obtain⟨⟨⟨rfl,rfl⟩,rfl⟩,rfl⟩:=hb;simp only[jF]at hl;obtain⟨rfl,rfl⟩:=hl;exact ub.refl _ _ _
 | .sc i n c,y,m,h,hl=>by
   cases y<;>simp only[xx,reduceCtorEq]at h
   obtain⟨hb,rfl⟩:=gq h;have hb:=aaZ.1 hb;subst hb;simp only[jF]at hl;obtain⟨rfl,rfl⟩:=hl;exact ub.refl _ _ _
 | .op i n,y,m,h,hl=>by
   cases y<;>simp only[xx,reduceCtorEq]at h
   obtain⟨hb,rfl⟩:=gq h;have hb:=aaZ.1 hb;subst hb;simp only[jF]at hl;subst hl;exact ub.refl _ _ _
 | .so i n,y,m,h,hl=>by
   cases y<;>simp only[xx,reduceCtorEq]at h
   obtain⟨hb,rfl⟩:=gq h;have hb:=aaZ.1 hb;subst hb;simp only[jF]at hl;subst hl;exact ub.refl _ _ _
 | .ap i e j o,y,m,h,hl=>by
   cases y<;>simp only[xx,reduceCtorEq]at h
   obtain⟨hb,rfl⟩:=gq h;simp only[aaX,aaZ]at hb;obtain⟨⟨rfl,rfl⟩,rfl⟩:=hb;simp only[jF]at hl;subst hl;exact ub.refl _ _ _
 | .ci k a,y,m,h,hl=>by
   cases y<;>simp only[xx,reduceCtorEq]at h<;>obtain⟨hb,rfl⟩:=gq h
   ·simp only[aaX,aaZ,aaY]at hb;obtain⟨rfl,rfl⟩:=hb;exact⟨rfl,id,rfl⟩
   ·have hb:=aaZ.1 hb;subst hb;simp only[jF]at hl;subst hl;exact⟨rfl,id,rfl⟩
 | .it k a,y,m,h,hl=>by
   cases y<;>simp only[xx,reduceCtorEq]at h<;>obtain⟨hb,rfl⟩:=gq h<;>have hb:=aaZ.1 hb<;>subst hb<;>simp only[jF]at hl<;>subst hl<;>exact⟨rfl,id,rfl⟩
 | .cb a,y,m,h,hl| .bo a,y,m,h,hl| .bt a,y,m,h,hl| .st a,y,m,h,hl| .nl a,y,m,h,hl| .key a,y,m,h,hl| .sl a,y,m,h,hl| .by a,y,m,h,hl| .ob a,y,m,h,hl=>by
   cases y<;>simp only[xx,reduceCtorEq,aaV]at h<;>subst h<;>simp only[jF]at hl<;>subst hl<;>exact⟨rfl,id,rfl⟩
theorem np (J:Env) (K:Nat->Prop):∀(x y:List V) (l:List Prop),sY x y=some l->jF l->aal J K x y
 | [],[],_,_,_=>⟨rfl,rfl,id,id⟩
 | [],_::_,_,h,_=>by simp[sY]at h
 |_::_,[],_,h,_=>by simp[sY]at h
 |x::l,y::m,p,h,hp=>by
  simp only[sY]at h;obtain⟨a,b,h1,h2,h3,h4⟩:=kN h hp;obtain⟨e1,e2,e3⟩:=qO J K x y a h1 h3;obtain⟨f1,f2,f3,f4⟩:=np J K l m b h2 h4;refine⟨by simp only[bB,e1,f1],by simp only[bp,e1,f2],fun hh=>⟨e2 hh.1,f3 hh.2⟩,fun hh=>?_⟩
  rw[eE]at hh⊢;intro z hz;rcases List.mem_cons.1 hz with rfl|hz
  ·rw[<-e3];exact hh x (by simp)
  ·exact(eE _).1 (f4 ((eE _).2 fun q hq=>hh q (by simp[hq]))) z hz
end
def kS (res:List aK) (i:Nat):Bool:=
 match ay res i with
 | .yet=>false
 |_=>true
theorem cD {res:List aK} {i:Nat}:kS res i=true↔known res i:=by
 unfold kS known;cases ay res i<;>simp
mutual
def within (res:List aK):V->Bool
 | .lp i _=>kS res i
 | .lx i _ _ _ _ _=>kS res i
 | .sc i _ _=>kS res i
 | .so i _=>kS res i
 | .ap i _ _ _=>kS res i
 | .ax i _ _ _ _ _ _ _=>kS res i
 | .sa i=>kS res i
 | .op i _=>kS res i
 | .yl i=>kS res i
 | .mp i=>kS res i
 | .ch _ _ l y=>na res l&&within res y
 | .bs x _ _=>within res x
 | .ks x _ _ _ _=>within res x
 | .fn _ l=>na res l
 | .ic _ x=>within res x
 | .ag l=>na res l
 | .tp l=>na res l
 |_=>true
def na (res:List aK):List V->Bool
 | []=>true
 |x::l=>within res x&&na res l
end
mutual
theorem jS {res:List aK} {K:Nat->Prop}:∀v,within res v=true->ok K v->ok (known res) v
 | .lp i _,h,_| .sc i _ _,h,_| .so i _,h,_| .ap i _ _ _,h,_| .sa i,h,_| .op i _,h,_| .yl i,h,_| .mp i,h,_=>cD.1 (by simpa[within]using h)
 | .bs x _ _,h,hk=>⟨jS x (by simpa only[within]using h) hk.1,hk.2⟩
 | .ks x _ _ _ _,h,hk=>⟨jS x (by simpa only[within]using h) hk.1,hk.2⟩
 | .ch _ _ l y,h,hk=>by
   simp only[within,aaX]at h;exact⟨je l h.1 hk.1,jS y h.2 hk.2.1,hk.2.2⟩
 | .lx i _ _ _ _ _,h,hk=>⟨cD.1 (by simpa[within]using h),hk.2⟩
 | .ax i _ _ _ _ _ _ _,h,hk=>⟨cD.1 (by simpa[within]using h),hk.2⟩
 | .fn _ l,h,hk=>je l (by simpa[within]using h) hk
 | .tp l,h,hk=>je l (by simpa[within]using h) hk
 | .ag l,h,hk=>⟨je l (by simpa[within]using h) hk.1,hk.2⟩
 | .ic _ x,h,hk=>jS x (by simpa[within]using h) hk
 | .cb _,_,h| .bo _,_,h| .ci _ _,_,h| .it _ _,_,h| .bt _,_,h| .st _,_,h| .nl _,_,h| .key _,_,h| .sl _,_,h| .by _,_,h| .ob _,_,h=>h
theorem je {res:List aK} {K:Nat->Prop}:∀l,na res l=true->fM K l->fM (known res) l
 | [],_,_=>trivial
 |x::l,h,hk=>by
  simp only[na,aaX]at h;exact⟨jS x h.1 hk.1,je l h.2 hk.2⟩
end
def mE (res:List aK):List S->List S->Option (List Prop)
 | [],[]=>some []
 |x::l,y::m=>match y with
  | .und=>mE res l m
  | .v b=>match x with
    | .v a=>if within res b then qz (xx a b) (mE res l m)else none
    |_=>none
  |_=>none
 |_,_=>none
def XK:TL->TL->Option (List Prop)
 | .fn n g,.fn n' g'=>some [n=n',g=g']
 | .ob a,.ob b=>some [a=b]
 | .key a,.key b=>some [a=b]
 | .it k a,.it k' b=>nT (k==k') [a=b]
 | .bo a,.bo b=>some [a=b]
 | .st a,.st b=>some [a=b]
 |_,_=>none
theorem Kh {a b:TL} {p:List Prop} (h:XK a b=some p) (hp:jF p):a=b:=by
 cases a<;>cases b<;>simp only[XK,aaV,reduceCtorEq]at h
 ·subst h;simp only[jF]at hp;obtain⟨rfl,rfl⟩:=hp;rfl
 ·subst h;simp only[jF]at hp;subst hp;rfl
 ·subst h;simp only[jF]at hp;subst hp;rfl
 ·grind[gq,jF]
 ·subst h;simp only[jF]at hp;subst hp;rfl
 ·subst h;simp only[jF]at hp;subst hp;rfl
def Ic (o' o:Option Nat):Bool:=match o with
 |none=>true
 |some e=>match o' with
  |some e'=>e==e'
  |none=>false
def CO:LoopState->LoopState->Bool
 | .ready,.ready=>true
 | .busy,.busy=>true
 | .done,.done=>true
 | .exhausted,.exhausted=>true
 |_,_=>false
theorem BR {a b:LoopState} (h:CO a b=true):a=b:=by cases a<;>cases b<;>first|rfl|simp[CO]at h
def uT (all:List aK):aK->aK->Option (List Prop)
 |x,.yet=>some []
 |x,.gone=>match x with
  | .yet=>none
  |_=>some []
 |x,.blk t c=>match x with
  | .blk t' c'=>if t==t'&&within all c then xx c' c else none
  |_=>none
 |x,.arr o e g=>match x with
  | .arr o' e' g'=>if e==e'&&Ic o' o then XK g' g else none
  |_=>none
 |x,.obs t q L=>match x with
  | .obs t' q' L'=>if t==t'&&q==q'&&kS all q then some [L'=L]else none
  |_=>none
 |x,.gen j=>match x with
  | .gen j'=>if j==j' then some []else none
  |_=>none
 |x,.store t e L=>match x with
  | .store t' e' L'=>if t==t'&&e==e' then some [L'=L]else none
  |_=>none
 |x,.lop r s j=>match x with
  | .lop r' s' j'=>match j with
    |none=>match j' with
     |none=>if CO s' s then some [r'=r]else none
     |some _=>none
    |some _=>none
  |_=>none
 |x,.dfr=>match x with
  | .dfr=>some []
  |_=>none
 |_,.mp _ _ _=>none
 |_,.mq _ _=>none
 |x,.ro y=>match x with
  | .ro x=>match y with
    | .yet=>none
    |_=>uT all x y
  |_=>none
def qR (all:List aK):List aK->List aK->Option (List Prop)
 |_,[]=>some []
 |x::l,y::m=>match y with
  | .yet=>qR all l m
  |_=>qz (uT all x y) (qR all l m)
 | [],y::m=>match y with
   | .yet=>qR all [] m
   |_=>none
def rZ (res:List aK):List (Nat×List V×List V)->List (Nat×List V×List V)->Option (List Prop)
 | [],[]=>some []
 | (f,a,b)::l,(g,c,d)::m=>if f==g&&na res c&&na res d then qz (qz (sY a c) (sY b d)) (rZ res l m)else none
 |_,_=>none
def aaK (U τ:St):Option (List Prop):=
 qz (mE τ.res U.slots τ.slots) (qz (qR τ.res U.res τ.res) (rZ τ.res U.defs τ.defs))
def Sub (U τ:St):Prop:=
 match aaK U τ with
 |some l=>jF l
 |none=>False
section
variable {J:Env} {fps:Nat->Nat->Prop} {w0 w:World} {F0:Nat->Prop} {a:Act}
def BV (J:Env) (K:Nat->Prop) (x:Value):S->Prop
 | .und=>True
 | .v b=>x=den J b/\ok K b
 |_=>False
theorem BV.ok {K:Nat->Prop} {sl:List S} {x:Value} {s:S} (h:BV J K x s):g8 J K sl x s:=by
 cases s with
 |und=>trivial
 |v b=>exact h
 |ud=>exact h.elim
 |gv ch b=>exact h.elim
theorem s9 {K:Nat->Prop} {res:List aK} {sl0:List S}:∀(l m:List S) (p:List Prop),mE res l m=some p->jF p->l.length=m.length/\
  ∀t x,g8 J K sl0 x (b9 l t)->BV J (known res) x (b9 m t)
 | [],[],_,_,_=>⟨rfl,fun t x _=>by simp[b9,BV]⟩
 | [],_::_,_,h,_=>by simp[mE]at h
 |_::_,[],_,h,_=>by simp[mE]at h
 |x::l,y::m,p,h,hp=>by
  have key:∀(q:List Prop),mE res l m=some q->jF q->(∀z,g8 J K sl0 z x->BV J (known res) z y)->
    (x::l).length=(y::m).length/\∀t z,g8 J K sl0 z (b9 (x::l) t)->BV J (known res) z (b9 (y::m) t):=by
   intro q hq hq' hz;obtain⟨e1,e2⟩:=s9 l m q hq hq';refine⟨by simp[e1],fun t z hh=>?_⟩
   cases t with
   |zero=>exact hz z hh
   |succ t=>exact e2 t z hh
  simp only[mE]at h;split at h
  ·exact key p h hp fun _ _=>trivial
  ·rename_i b;split at h
   ·rename_i a';split at h
    ·rename_i hw;obtain⟨u,v,h1,h2,h3,h4⟩:=kN h hp;refine key v h2 h4 fun z hz=>?_
     obtain⟨e1,e2,_⟩:=qO J K a' b u h1 h3;exact⟨hz.1.trans e1,jS b hw (e2 hz.2)⟩
    ·simp at h
   ·simp at h
  ·simp at h
theorem Bo {K:Nat->Prop} {all:List aK}:∀(x y:aK) (p:List Prop),uT all x y=some p->jF p->y≠ .yet->x≠ .yet/\∀j fp w0 F0 w,x.holds K J j fp w0 F0 w->y.holds (known all) J j fp w0 F0 w
 |x,.yet,p,h,hp,hy=>absurd rfl hy
 |x,.gone,p,h,hp,hy=>by
  unfold uT at h;split at h
  ·simp at h
  ·rename_i hx;exact⟨hx,fun _ _ _ _ _ _=>trivial⟩
 |x,.blk t c,p,h,hp,hy=>by
  unfold uT at h;split at h
  ·rename_i t' c';split at h
   ·rename_i hc;simp only[aaX,aaZ]at hc;obtain⟨rfl,hw⟩:=hc;refine⟨by simp,fun j fp w0 F0 w hh=>?_⟩
    obtain⟨e1,e2,e3⟩:=qO J K c' c p h hp;obtain⟨g1,g2,g3,g4⟩:=hh;exact⟨jS c hw (e2 g1),by rw[<-e3];exact g2,g3,by rw[g4];simp only[cells,e1]⟩
   ·simp at h
  ·simp at h
 |x,.arr o e g,p,h,hp,hy=>by
  unfold uT at h;split at h
  ·rename_i o' e' g';split at h
   ·rename_i hc;simp only[aaX,aaZ]at hc;obtain⟨rfl,hc2⟩:=hc;have:=Kh h hp;subst this;refine⟨by simp,fun j fp w0 F0 w hh=>?_⟩
    obtain⟨a1,a2,a3,a4,a5,a6,a7⟩:=hh;refine⟨a1,a2,a3,a4,a5,a6,?_⟩;rcases a7 with⟨b1,b2⟩|⟨x,b1,b2⟩
    ·refine .inl ⟨?_,b2⟩;subst b1;cases o with
     |none=>rfl
     |some z=>simp[Ic]at hc2
    ·refine .inr ⟨x,fun z hz=>?_,b2⟩
     subst hz;cases o' with
     |none=>simp[Ic]at hc2
     |some y=>
      have:=b1 y rfl;simp only[Ic,aaZ]at hc2;omega
   ·simp at h
  ·simp at h
 |x,.obs t q L,p,h,hp,hy=>by
  unfold uT at h;split at h
  ·split at h
   ·rename_i hc;simp only[aaX,aaZ]at hc;obtain⟨⟨rfl,rfl⟩,hkq⟩:=hc;simp only[aaV]at h;subst h;simp only[jF]at hp;subst hp;exact⟨by simp,fun j fp w0 F0 w hh=>⟨cD.1 hkq,hh.2⟩⟩
   ·simp at h
  ·simp at h
 |x,.gen j,p,h,hp,hy=>by
  unfold uT at h;split at h
  ·exact⟨by simp,fun _ _ _ _ _ _=>trivial⟩
  ·simp at h
 |x,.store t e L,p,h,hp,hy=>by
  unfold uT at h;split at h
  ·split at h
   ·rename_i hc;simp only[aaX,aaZ]at hc;obtain⟨rfl,rfl⟩:=hc;simp only[aaV]at h;subst h;simp only[jF]at hp;subst hp;exact⟨by simp,fun j fp w0 F0 w hh=>hh⟩
   ·simp at h
  ·simp at h
 |x,.lop r s j,p,h,hp,hy=>by
  unfold uT at h;split at h
  ·split at h
   ·split at h
    ·split at h
     ·rename_i hs;have:=BR hs;subst this;simp only[aaV]at h;subst h;simp only[jF]at hp;subst hp;exact⟨by simp,fun j fp w0 F0 w hh=>hh⟩
     ·simp at h
    ·simp at h
   ·simp at h
  ·simp at h
 |x,.dfr,p,h,hp,hy=>by
  unfold uT at h;split at h
  ·exact⟨by simp,fun j fp w0 F0 w hh=>hh⟩
  ·simp at h
 |x,.mp _ _ _,p,h,hp,hy=>by simp[uT]at h
 |x,.mq _ _,p,h,hp,hy=>by simp[uT]at h
 |x,.ro y,p,h,hp,hy=>by
  unfold uT at h;split at h
  ·rename_i x';split at h
   ·simp at h
   ·rename_i hyy;obtain⟨e1,e2⟩:=Bo x' y p h hp hyy;refine⟨by simp,fun j fp w0 F0 w hh=>?_⟩
    obtain⟨fp',g1,g2⟩:=hh;exact⟨fp',e2 j fp' w0 F0 w0 g1,g2⟩
  ·simp at h
theorem rh {K:Nat->Prop} {all:List aK}:∀(l m:List aK) (p:List Prop),qR all l m=some p->jF p->∀i,known m i->known l i/\
  ∀j fp w0 F0 w,(ay l i).holds K J j fp w0 F0 w->(ay m i).holds (known all) J j fp w0 F0 w
 |_,[],_,_,_,i,hi=>by simp[known,ay]at hi
 | [],y::m,p,h,hp,i,hi=>by
   simp only[qR]at h;split at h
   ·cases i with
    |zero=>simp[known,ay]at hi
    |succ i=>
     obtain⟨h1,h2⟩:=rh (K:=K) [] m p h hp i hi;simp[known,ay]at h1
   ·simp at h
 |x::l,y::m,p,h,hp,i,hi=>by
  have key:∀(q:List Prop),qR all l m=some q->jF q->(y≠ .yet->x≠ .yet/\∀j fp w0 F0 w,x.holds K J j fp w0 F0 w->y.holds (known all) J j fp w0 F0 w)->
    known (x::l) i/\∀j fp w0 F0 w,(ay (x::l) i).holds K J j fp w0 F0 w->(ay (y::m) i).holds (known all) J j fp w0 F0 w:=by
   intro q hq hq' hz;cases i with
   |zero=>exact hz hi
   |succ i=>exact rh l m q hq hq' i hi
  simp only[qR]at h;split at h
  ·exact key p h hp fun hh=>absurd rfl hh
  ·rename_i hy;obtain⟨u,v,h1,h2,h3,h4⟩:=kN h hp;exact key v h2 h4 fun hy'=>Bo x y u h1 h3 hy'
theorem M9 {a c:List V} {l:List Prop} (h:sY a c=some l):BO a=BO c:=by
 match a,c with
 | [],[]=>rfl
 | [],_::_=>simp[sY]at h
 |_::_,[]=>simp[sY]at h
 | [x],[y]=>
   simp only[sY]at h;unfold qz at h;split at h<;>simp only[aaV,reduceCtorEq]at h
   rename_i hx _;unfold BO
   cases x<;>cases y<;>simp only[xx,reduceCtorEq]at hx<;>first
    |rfl
    | (have hb:=aaZ.1 (gq hx).1;subst hb;rfl)
 | [x],y::z::m=>
   simp only[sY,qz]at h;split at h<;>simp_all
 |x::z::m,[y]=>
  simp only[sY,qz]at h;split at h<;>simp_all
 |_::_::_,_::_::_=>rfl
theorem vf {K:Nat->Prop} {res:List aK}:∀(l m:List (Nat×List V×List V)) (p:List Prop),rZ res l m=some p->jF p->(∀d∈l,fM K d.2.1/\fM K d.2.2)->
  l.flatMap (lN J)=m.flatMap (lN J)/\∀d∈m,fM (known res) d.2.1/\fM (known res) d.2.2
 | [],[],_,_,_,_=>⟨rfl,by simp⟩
 | [],_::_,_,h,_,_=>by simp[rZ]at h
 |_::_,[],_,h,_,_=>by simp[rZ]at h
 | (f,a,b)::l,(g,c,d)::m,p,h,hp,hk=>by
   simp only[rZ]at h;split at h
   ·rename_i hc;simp only[aaX,aaZ]at hc;obtain⟨⟨rfl,w1⟩,w2⟩:=hc;obtain⟨u,v,h1,h2,h3,h4⟩:=kN h hp;obtain⟨u1,u2,i1,i2,i3,i4⟩:=kN h1 h3;obtain⟨e1,_,e2,_⟩:=np J K a c u1 i1 i3;obtain⟨f1,_,f2,_⟩:=np J K b d u2 i2 i4;obtain⟨g1,g2⟩:=vf l m v h2 h4 fun d hd=>hk d (by simp[hd])
    have hk0:=hk (f,a,b) (by simp)
    have hde:lN J (f,a,b)=lN J (f,c,d):=by
     grind[M9,lN,BO]
    refine⟨by rw[List.flatMap_cons,List.flatMap_cons,hde,g1],fun d' hd'=>?_⟩
    rcases List.mem_cons.1 hd' with rfl|hd'
    ·exact⟨je _ w1 (e2 hk0.1),je _ w2 (f2 hk0.2)⟩
    ·exact g2 d' hd'
   ·simp at h
theorem Sub.rep {U τ:St} (h:Sub U τ) (hr:lJ J fps U w0 F0 a w):lJ J fps τ w0 F0 a w/\∀i,known τ.res i->known U.res i:=by
 unfold Sub at h;split at h
 ·rename_i l hl;obtain⟨u,v,h1,h2,h3,h4⟩:=kN hl h;obtain⟨v1,v2,i1,i2,i3,i4⟩:=kN h2 h4;obtain⟨r1,r2,r3,r4⟩:=hr;obtain⟨s1,s2⟩:=s9 (J:=J) (K:=known U.res) (sl0:=U.slots) _ _ u h1 h3;have hres:=fun i hi=>rh (J:=J) (K:=known U.res) _ _ v1 i1 i3 i hi
  obtain⟨d1,d2⟩:=vf (J:=J) (K:=known U.res) _ _ v2 i2 i4 r4;refine⟨⟨⟨by rw[<-s1];exact r1.1,fun t=>(s2 t _ (r1.2 t)).ok⟩,?_,by rw[r3,d1],d2⟩,fun i hi=>(hres i hi).1⟩
  have hk:∀i,known τ.res i->known U.res i:=fun i hi=>(hres i hi).1
  exact⟨fun i hi=>hi,r2.old,r2.os,r2.tape,r2.output,fun i hi=>(hres i hi).2 _ _ _ _ _ (r2.holds i (hk i hi)),fun i b hi=>r2.lt i b (hk i hi),
   fun i j b hi hj=>r2.disj i j b (hk i hi) (hk j hj),fun i b hi=>r2.inF i b (hk i hi),r2.same⟩
 ·exact h.elim
end
def Ok:List V->Option (List Obj)
 | []=>some []
 |v::l=>match v with
  | .ob o=>match Ok l with
    |some m=>some (o::m)
    |none=>none
  |_=>none
theorem BE:∀{l:List V} {L:List Obj},Ok l=some L->l=L.map V.ob
 | [],L,h=>by simp only[Ok,aaV]at h;subst h;rfl
 |v::l,L,h=>by
  simp only[Ok]at h;split at h
  ·split at h<;>simp only[aaV,reduceCtorEq]at h
   rename_i o m hm;subst h;rw[BE hm];rfl
  ·simp at h
theorem yC (J:Env) (L:List Obj):bp J (L.map V.ob)=(TL.ob L).cells:=by
 unfold TL.cells;rw[A7]
 have h:∀M:List Obj,(M.map V.ob).flatMap (cells J)=(List.range M.length).flatMap fun j=>cells Env.zero (.ob (aj M j free)):=by
  intro M;induction M with
  |nil=>rfl
  |cons o M ih=>
   rw[List.map_cons,List.flatMap_cons,ih,List.length_cons,List.range_succ_eq_map,List.flatMap_cons,List.flatMap_map];congr 1
 exact h L
def R7 (x:V):Option (List Obj):=
 match x with
 | .ag l=>Ok l
 | .ob o=>some [o]
 |_=>none
theorem Ji {x:V} {L:List Obj} {N:Nat->Prop} (h:R7 x=some L) (hx:ok N x):(∀J,cells J x=(TL.ob L).cells)/\∀j,j<L.length->(aj L j free).wf:=by
 unfold R7 at h;split at h
 ·have:=BE h;subst this;refine⟨fun J=>by rw[fE,yC],fun j hj=>?_⟩
  have:=(ja _).1 hx.1 (.ob (L[j])) (by simp)
  have this:(L[j]).wf:=this;simpa[aj,aa2,hj]using this
 ·rename_i o;simp only[aaV]at h;subst h;refine⟨fun J=>?_,fun j hj=>?_⟩
  ·have:=yC J [o];rw[<-this];simp[bp,cells]
  ·have:j=0:=by simp at hj;omega
   subst this;exact hx
 ·simp at h
mutual
def fU (κ:Nat->Option Nat):V->Option V
 | .lp i off=>match κ i with
   |some j=>some (.lp j off)
   |none=>none
 | .lx i off esz n k inner=>match κ i with
   |some j=>some (.lx j off esz n k inner)
   |none=>none
 | .sc i len cap=>match κ i with
   |some j=>some (.sc j len cap)
   |none=>none
 | .so i len=>match κ i with
   |some j=>some (.so j len)
   |none=>none
 | .ap i esz k off=>match κ i with
   |some j=>some (.ap j esz k off)
   |none=>none
 | .sa i=>match κ i with
   |some j=>some (.sa j)
   |none=>none
 | .op i k=>match κ i with
   |some j=>some (.op j k)
   |none=>none
 | .yl i=>match κ i with
   |some j=>some (.yl j)
   |none=>none
 | .mp i=>match κ i with
   |some j=>some (.mp j)
   |none=>none
 | .ch _ _ _ _=>none
 | .ax _ _ _ _ _ _ _ _=>none
 | .bs _ _ _=>none
 | .ks _ _ _ _ _=>none
 | .fn f l=>match eO κ l with
   |some m=>some (.fn f m)
   |none=>none
 | .ic t x=>match fU κ x with
   |some y=>some (.ic t y)
   |none=>none
 | .ag l=>match eO κ l with
   |some m=>some (.ag m)
   |none=>none
 | .tp l=>match eO κ l with
   |some m=>some (.tp m)
   |none=>none
 | .cb b=>some (.cb b)
 | .bo b=>some (.bo b)
 | .ci k n=>some (.ci k n)
 | .it k n=>some (.it k n)
 | .bt b=>some (.bt b)
 | .st s=>some (.st s)
 | .nl v=>some (.nl v)
 | .key k=>some (.key k)
 | .sl s=>some (.sl s)
 | .by b=>some (.by b)
 | .ob o=>some (.ob o)
def eO (κ:Nat->Option Nat):List V->Option (List V)
 | []=>some []
 |x::l=>match fU κ x with
  |some y=>match eO κ l with
   |some m=>some (y::m)
   |none=>none
  |none=>none
end
def Env.via (κ:Nat->Option Nat) (J ρ':Env):Prop:=∀p i,κ p=some i->ρ'.num i=J.num p/\ρ'.cap i=J.cap p/\ρ'.adr i=J.adr p/\ρ'.sa i=J.sa p/\ρ'.sn i=J.sn p/\ρ'.ob i=J.ob p
section
variable {κ:Nat->Option Nat} {J ρ':Env} {N N':Nat->Prop}
mutual
theorem la (hv:Env.via κ J ρ') (hN:∀p i,κ p=some i->N p->N' i):∀v v',fU κ v=some v'->den ρ' v'=den J v/\(ok N v->ok N' v')/\cV v'=cV v
 | .lp i off,v',h=>by
   simp only[fU]at h;split at h<;>simp only[aaV,reduceCtorEq]at h
   rename_i j hj;subst h;exact⟨by simp only[den,(hv i j hj).1],fun hk=>hN i j hj hk,rfl⟩
 | .lx i off esz n k inner,v',h=>by
   simp only[fU]at h;split at h<;>simp only[aaV,reduceCtorEq]at h
   rename_i j hj;subst h;exact⟨by simp only[den,(hv i j hj).1],fun hk=>⟨hN i j hj hk.1,hk.2⟩,rfl⟩
 | .sc i len cap,v',h=>by
   simp only[fU]at h;split at h<;>simp only[aaV,reduceCtorEq]at h
   rename_i j hj;subst h;exact⟨by simp only[den,(hv i j hj).1],fun hk=>hN i j hj hk,rfl⟩
 | .so i len,v',h=>by
   simp only[fU]at h;split at h<;>simp only[aaV,reduceCtorEq]at h
   rename_i j hj;subst h;exact⟨by simp only[den,(hv i j hj).1,(hv i j hj).2.1],fun hk=>hN i j hj hk,rfl⟩
 | .ap i esz k off,v',h=>by
   simp only[fU]at h;split at h<;>simp only[aaV,reduceCtorEq]at h
   rename_i j hj;subst h;exact⟨by simp only[den,(hv i j hj).2.2.1],fun hk=>hN i j hj hk,rfl⟩
 | .sa i,v',h=>by
   simp only[fU]at h;split at h<;>simp only[aaV,reduceCtorEq]at h
   rename_i j hj;subst h;exact⟨by simp only[den,(hv i j hj).2.1,(hv i j hj).2.2.2.1,(hv i j hj).2.2.2.2.1],fun hk=>hN i j hj hk,rfl⟩
 | .yl i,v',h=>by
   simp only[fU]at h;split at h<;>simp only[aaV,reduceCtorEq]at h
   rename_i j hj;subst h;exact⟨by simp only[den,(hv i j hj).1],fun hk=>hN i j hj hk,rfl⟩
 | .mp i,v',h=>by
   simp only[fU]at h;split at h<;>simp only[aaV,reduceCtorEq]at h
   rename_i j hj;subst h;exact⟨by simp only[den,(hv i j hj).1],fun hk=>hN i j hj hk,rfl⟩
 | .ch b f l y,v',h=>by simp[fU]at h
 | .ax _ _ _ _ _ _ _ _,v',h=>by simp[fU]at h
 | .bs _ _ _,v',h=>by simp[fU]at h
 | .ks _ _ _ _ _,v',h=>by simp[fU]at h
 | .op i k,v',h=>by
   simp only[fU]at h;split at h<;>simp only[aaV,reduceCtorEq]at h
   rename_i j hj;subst h;exact⟨by simp only[den,(hv i j hj).2.2.2.2.2],fun hk=>hN i j hj hk,rfl⟩
 | .fn f l,v',h=>by
   simp only[fU]at h;split at h<;>simp only[aaV,reduceCtorEq]at h
   rename_i m hm;subst h;obtain⟨a,_,c,_⟩:=jd hv hN l m hm;exact⟨by simp only[den,a],c,rfl⟩
 | .ic t x,v',h=>by
   simp only[fU]at h;split at h<;>simp only[aaV,reduceCtorEq]at h
   rename_i m hm;subst h;obtain⟨a,c,_⟩:=la hv hN x m hm;exact⟨by simp only[den,a],c,rfl⟩
 | .ag l,v',h=>by
   simp only[fU]at h;split at h<;>simp only[aaV,reduceCtorEq]at h
   rename_i m hm;subst h;obtain⟨_,b,c,d⟩:=jd hv hN l m hm;exact⟨by simp only[den,b],fun hk=>⟨c hk.1,d hk.2⟩,rfl⟩
 | .tp l,v',h=>by
   simp only[fU]at h;split at h<;>simp only[aaV,reduceCtorEq]at h
   rename_i m hm;subst h;obtain⟨a,_,c,_⟩:=jd hv hN l m hm;exact⟨by simp only[den,a],c,rfl⟩
 | .cb b,v',h| .bo b,v',h| .ci _ b,v',h| .it _ b,v',h| .bt b,v',h| .st b,v',h| .nl b,v',h| .key b,v',h| .sl b,v',h| .by b,v',h| .ob b,v',h=>by
   simp only[fU,aaV]at h;subst h;exact⟨rfl,id,rfl⟩
theorem jd (hv:Env.via κ J ρ') (hN:∀p i,κ p=some i->N p->N' i):∀l l',eO κ l=some l'->bB ρ' l'=bB J l/\bp ρ' l'=bp J l/\(fM N l->fM N' l')/\(ti l->ti l')
 | [],l',h=>by simp only[eO,aaV]at h;subst h;exact⟨rfl,rfl,id,id⟩
 |x::l,l',h=>by
  simp only[eO]at h;split at h
  ·rename_i y hy;split at h<;>simp only[aaV,reduceCtorEq]at h
   rename_i m hm;subst h;obtain⟨a1,a2,a3⟩:=la hv hN x y hy;obtain⟨b1,b2,b3,b4⟩:=jd hv hN l m hm;refine⟨by simp only[bB,a1,b1],by simp only[bp,a1,b2],fun hk=>⟨a2 hk.1,b3 hk.2⟩,fun hk=>?_⟩
   rw[eE]at hk⊢;intro z hz;rcases List.mem_cons.1 hz with rfl|hz
   ·rw[a3];exact hk x (by simp)
   ·simp_all[eE]
  ·simp at h
end
theorem m7 {κ:Nat->Option Nat}:∀{l l':List V},eO κ l=some l'->l'.length=l.length
 | [],l',h=>by simp only[eO,aaV]at h;subst h;rfl
 |x::l,l',h=>by
  simp only[eO]at h;split at h
  ·split at h<;>simp only[aaV,reduceCtorEq]at h
   rename_i m hm;subst h;simp[m7 hm]
  ·simp at h
def gm (κ:Nat->Option Nat):aK->aK
 | .yet=> .yet
 | .gone=> .gone
 | .blk ty c=>match fU κ c with
   |some c'=> .blk ty c'
   |none=> .gone
 | .arr o e l=> .arr o e l
 | .obs ty q L=>match κ q with
   |some q'=> .obs ty q' L
   |none=> .gone
 | .gen j=>match κ j with
   |some j'=> .gen j'
   |none=> .gone
 | .store ty e L=> .store ty e L
 | .lop r s j=> .lop r s j
 | .dfr=> .dfr
 | .mp k ks vs=>match eO κ vs with
   |some vs'=> .mp k ks vs'
   |none=> .gone
 | .mq ks vs=>match eO κ vs with
   |some vs'=> .mq ks vs'
   |none=> .gone
 | .ro r=> .ro (gm κ r)
theorem mD {r:aK}:gm κ r= .yet↔r= .yet:=by
 cases r<;>simp only[gm]<;>(try split)<;>simp
theorem iO (hv:Env.via κ J ρ') (hN:∀p i,κ p=some i->N p->N' i) {p i:Nat} (hp:κ p=some i) {w0:World} {F0:Nat->Prop}:∀(r:aK) (fp:Nat->Prop) (w:World),r.holds N J p fp w0 F0 w->(gm κ r).holds N' ρ' i fp w0 F0 w
 | .yet,fp,w,h=>trivial
 | .gone,fp,w,h=>trivial
 | .gen j,fp,w,h=>by simp only[gm];split<;>trivial
 | .blk ty c,fp,w,h=>by
   simp only[gm];split
   ·rename_i c' hc;obtain⟨h1,h2,h3,h4⟩:=h;obtain⟨a,b,d⟩:=la hv hN c c' hc;have e:=(hv p i hp).1;exact⟨b h1,by rw[d];exact h2,by rw[e];exact h3,by rw[e];simp only[cells,a];exact h4⟩
   ·trivial
 | .arr o e l,fp,w,h=>by
   obtain⟨e1,e2,e3,e4,e5,e6⟩:=hv p i hp;obtain⟨h1,h2,h3,h4,h5,h6,h7⟩:=h;have hsl:ρ'.sl i=J.sl p:=by simp only[Env.sl,e2,e4,e5]
   refine⟨h1,by rw[e5];exact h2,h3,by rw[e4,e3];exact h4,by rw[e4];exact h5,by rw[e3];exact h6,?_⟩
   rcases h7 with⟨g1,g2,g3⟩|⟨x,g1,g2,g3⟩
   ·refine .inl ⟨g1,by rw[e3];exact g2,fun j hj k hk=>?_⟩
    rw[e3,g3 j hj k hk,dV (N:=fun _=>False) (J:=J) (ρ':=ρ') (fun _ h=>h.elim) _ (h1 j hj).1]
   ·exact .inr ⟨x,g1,by rw[hsl];exact g2,by rw[e4];exact g3⟩
 | .obs ty q L,fp,w,h=>by
   simp only[gm];split
   ·rename_i q' hq;obtain⟨e1,e2,e3,e4,e5,e6⟩:=hv p i hp;obtain⟨h0,h1,h2,h3,h4,h5,h6,h7⟩:=h;have hsl:ρ'.sl i=J.sl p:=by simp only[Env.sl,e2,e4,e5]
    have eq6:=(hv q q' hq).2.2.2.2.2;exact⟨hN q q' hq h0,h1,by rw[e5];exact h2,h3,by rw[e4,e3];exact h4,by rw[e4];exact h5,by rw[hsl,eq6];exact h6,by rw[eq6];exact h7⟩
   ·trivial
 | .store ty e L,fp,w,h=>by
   have e:=(hv p i hp).1;obtain⟨h0,h1,h2,sl,ob,h3,h5,h6,h7⟩:=h;exact⟨by rw[e];exact h0,h1,h2,sl,ob,by rw[e];exact h3,h5,by rw[e];exact h6,by rw[e];exact h7⟩
 | .lop r s j,fp,w,h=>by
   have e:=(hv p i hp).1;exact⟨by rw[e];exact h.1,by rw[e];exact h.2⟩
 | .dfr,fp,w,h=>by
   have e1:=(hv p i hp).2.2.2.2.1;have e2:=(hv p i hp).2.2.2.2.2;exact⟨fun j hj=>by rw[e1]at hj;rw[e2];exact h.1 j hj,by rw[e1,e2];exact h.2⟩
 | .mp k ks vs,fp,w,h=>by
   simp only[gm];split
   ·rename_i vs' hvs;obtain⟨h0,h1,h2,h3,h4,es,cl,h5,h6,h7⟩:=h;obtain⟨a,_,c,d⟩:=jd hv hN vs vs' hvs;have e:=(hv p i hp).1;exact⟨by rw[e];exact h0,c h1,d h2,h3,by rw[m7 hvs];exact h4,es,cl,by rw[e];exact h5,h6,by rw[a];exact h7⟩
   ·trivial
 | .mq ks vs,fp,w,h=>by
   simp only[gm];split
   ·rename_i vs' hvs;obtain⟨h0,h1,h2,h4,es,cl,h5,h7⟩:=h;obtain⟨a,_,c,d⟩:=jd hv hN vs vs' hvs;have e:=(hv p i hp).1;exact⟨by rw[e];exact h0,c h1,d h2,by rw[m7 hvs];exact h4,es,cl,by rw[e];exact h5,by rw[a];exact h7⟩
   ·trivial
 | .ro r,fp,w,h=>by
   obtain⟨fp',h1,h2⟩:=h;exact⟨fp',iO hv hN hp r fp' w0 h1,h2⟩
end
def idxOf:List Nat->Nat->Nat->Option Nat
 | [],_,_=>none
 |x::l,n,p=>if x==p then some n else idxOf l (n+1) p
def k7 (n:Nat) (l:List Nat) (p:Nat):Option Nat:=if Nat.blt p n then some p else idxOf l n p
def src (n:Nat) (l:List Nat) (i:Nat):Nat:=if i<n then i else l.getD (i-n) i
theorem iZ:∀{l:List Nat} {n p i:Nat},idxOf l n p=some i->n<=i/\i<n+l.length/\l[i-n]? =some p
 | [],n,p,i,h=>by simp[idxOf]at h
 |x::l,n,p,i,h=>by
  simp only[idxOf]at h;split at h
  ·simp_all
  ·obtain⟨h1,h2,h3⟩:=iZ h;refine⟨by omega,by simp;omega,?_⟩
   rw[show i-n=(i-(n+1))+1 by omega]
   simpa using h3
theorem IB {n:Nat} {l:List Nat} {p i:Nat} (h:k7 n l p=some i):src n l i=p:=by
 unfold k7 at h;unfold src;split at h
 ·rename_i hp;simp only[aaV]at h;subst h;rw[aa4 (by simpa using hp)]
 ·obtain⟨h1,h2,h3⟩:=iZ h;rw[aa3 (by omega),aa2,h3];rfl
def Env.pull (π:Nat->Nat) (J:Env):Env:= {num:=fun i=>J.num (π i),cap:=fun i=>J.cap (π i),adr:=fun i=>J.adr (π i),sa:=fun i=>J.sa (π i),sn:=fun i=>J.sn (π i),ob:=fun i=>J.ob (π i)}
theorem qN {π:Nat->Nat} {κ:Nat->Option Nat} {J:Env} (h:∀p i,κ p=some i->π i=p):Env.via κ J (J.pull π):=fun p i hp=>by
 have:=h p i hp;simp[Env.pull,this]
def oQ (κ:Nat->Option Nat) (all:List aK):Nat->List aK->List aK
 |0,_=> []
 |_+1,[]=> []
 |n+1,r::l=>gm κ r::oQ κ all n l
def fZ (κ:Nat->Option Nat) (all:List aK):List Nat->List aK
 | []=> []
 |p::l=>gm κ (ay all p)::fZ κ all l
def pQ (κ:Nat->Option Nat):List S->List S
 | []=> []
 |s::l=>(match s with
  | .v x=>match fU κ x with
    |some y=> .v y
    |none=> .und
  |_=> .und)::pQ κ l
def zV (κ:Nat->Option Nat):List (Nat×List V×List V)->Option (List (Nat×List V×List V))
 | []=>some []
 | (f,a,b)::l=>match eO κ a,eO κ b,zV κ l with
   |some a',some b',some m=>some ((f,a',b')::m)
   |_,_,_=>none
def nL:List Nat->Nat->Bool
 | [],_=>false
 |x::l,p=>x==p||nL l p
def iD (n m:Nat):List Nat->Bool
 | []=>true
 |p::l=>Nat.ble n p&&Nat.blt p m&& !nL l p&&iD n m l
def VJ (n:Nat) (ext:List Nat) (U:St):Option St:=
 if Nat.ble n U.res.length&&iD n U.res.length ext then
  match zV (k7 n ext) U.defs with
  |some ds=>some {slots:=pQ (k7 n ext) U.slots,res:=oQ (k7 n ext) U.res n U.res++fZ (k7 n ext) U.res ext,defs:=ds}
  |none=>none
 else none
theorem w9 (κ:Nat->Option Nat) (all:List aK):∀(n:Nat) (l:List aK) (i:Nat),n<=l.length->i<n->ay (oQ κ all n l) i=gm κ (ay l i)
 |0,_,i,_,h=>by omega
 |n+1,[],i,h,_=>by simp at h
 |n+1,r::l,0,h,_=>rfl
 |n+1,r::l,i+1,h,hi=>by
  simp_all[oQ,ay,w9]
theorem s7 (κ:Nat->Option Nat) (all:List aK):∀(n:Nat) (l:List aK),n<=l.length->(oQ κ all n l).length=n
 |0,_,_=>rfl
 |n+1,[],h=>by simp at h
 |n+1,r::l,h=>by simp[oQ,s7 κ all n l (by simpa using h)]
theorem rD (κ:Nat->Option Nat) (all:List aK):∀(l:List Nat) (k:Nat),ay (fZ κ all l) k=match l[k]? with|some p=>gm κ (ay all p)|none=> .yet
 | [],k=>by simp[fZ,ay]
 |p::l,0=>by simp[fZ,ay]
 |p::l,k+1=>by simp[fZ,ay,rD κ all l k]
theorem HO:∀{l:List Nat} {p:Nat},nL l p=true↔p∈l
 | [],p=>by simp[nL]
 |x::l,p=>by
  simp only[nL,Bool.or_eq_true,aaZ,HO (l:=l),List.mem_cons];exact or_congr_left eq_comm
theorem pS {n m:Nat}:∀{l:List Nat},iD n m l=true->(∀p∈l,n<=p/\p<m)/\l.Nodup
 | [],_=>by simp
 |p::l,h=>by
  simp only[iD,aaX,Nat.ble_eq,Nat.blt_eq,Bool.not_eq_true']at h;obtain⟨⟨⟨h1,h2⟩,h3⟩,h4⟩:=h;obtain⟨a,b⟩:=pS h4;refine⟨fun q hq=>?_,List.nodup_cons.2 ⟨fun hp=>?_,b⟩⟩
  ·grind
  ·rw[<-HO]at hp;rw[hp]at h3;simp at h3
theorem rP (κ:Nat->Option Nat):∀l:List S,(pQ κ l).length=l.length
 | []=>rfl
 |s::l=>by simp[pQ,rP κ l]
theorem uy (κ:Nat->Option Nat):∀(l:List S) (t:Nat),b9 (pQ κ l) t=match b9 l t with
  | .v x=>(match fU κ x with|some y=> .v y|none=> .und)
  |_=> .und
 | [],t=>by simp[pQ,b9]
 |s::l,0=>by cases s<;>rfl
 |s::l,t+1=>by simp only[pQ,b9];exact uy κ l t
theorem Jd {κ:Nat->Option Nat} {a a':List V} (h:eO κ a=some a'):(BO a=none/\BO a'=none)\/∃k k',BO a=some k/\κ k=some k'/\BO a'=some k':=by
 match a with
 | []=>simp only[eO,aaV]at h;subst h;exact .inl ⟨rfl,rfl⟩
 | [x]=>
   simp only[eO]at h;split at h<;>simp only[aaV,reduceCtorEq]at h
   rename_i y hy;subst h
   cases x<;>simp only[fU]at hy<;>(try split at hy)<;>simp only[aaV,reduceCtorEq]at hy<;>subst hy<;>first
    |exact .inl ⟨rfl,rfl⟩
    | (rename_i k _ k' hk;exact .inr ⟨k,k',rfl,hk,rfl⟩)
 |x::z::m=>
  have hl:=m7 h;match a',hl with
  | [],hl=>simp at hl
  | [_],hl=>simp at hl
  |_::_::_,_=>exact .inl ⟨rfl,rfl⟩
theorem rG {κ:Nat->Option Nat} {J ρ':Env} {N N':Nat->Prop} (hv:Env.via κ J ρ') (hN:∀p i,κ p=some i->N p->N' i):∀(l m:List (Nat×List V×List V)),zV κ l=some m->
  m.flatMap (lN ρ')=l.flatMap (lN J)/\((∀d∈l,fM N d.2.1/\fM N d.2.2)->∀d∈m,fM N' d.2.1/\fM N' d.2.2)
 | [],m,h=>by simp only[zV,aaV]at h;subst h;exact⟨rfl,fun _=>by simp⟩
 | (f,a,b)::l,m,h=>by
   simp only[zV]at h;split at h<;>simp only[aaV,reduceCtorEq]at h
   rename_i a' b' m' ha hb hm;subst h;obtain⟨a1,_,a3,_⟩:=jd hv hN a a' ha;obtain⟨b1,_,b3,_⟩:=jd hv hN b b' hb;obtain⟨c1,c2⟩:=rG hv hN l m' hm
   have hde:lN ρ' (f,a',b')=lN J (f,a,b):=by
    unfold lN;rcases Jd ha with⟨h1,h2⟩|⟨k,k',h1,h2,h3⟩
    ·simp only[h1,h2,a1,b1]
    ·simp only[h1,h3,(hv k k' h2).2.2.2.2.1,(hv k k' h2).2.2.2.2.2]
   refine⟨by rw[List.flatMap_cons,List.flatMap_cons,hde,c1],fun hk d hd=>?_⟩
   rcases List.mem_cons.1 hd with rfl|hd
   ·have h0:=hk (f,a,b) (by simp)
    exact⟨a3 h0.1,b3 h0.2⟩
   ·exact c2 (fun d hd=>hk d (by simp[hd])) d hd
theorem LY {J:Env} {fps:Nat->Nat->Prop} {w0 w:World} {F0:Nat->Prop} {a:Act} {n:Nat} {ext:List Nat} {U σ':St} (h:VJ n ext U=some σ') (hr:lJ J fps U w0 F0 a w):
  ∃ρ' fps',lJ ρ' fps' σ' w0 F0 a w/\∀i,i<n->ρ'.num i=J.num i/\ρ'.cap i=J.cap i/\ρ'.adr i=J.adr i/\ρ'.sa i=J.sa i/\ρ'.sn i=J.sn i/\ρ'.ob i=J.ob i:=by
 unfold VJ at h;split at h
 ·rename_i hc;simp only[aaX,Nat.ble_eq]at hc;obtain⟨hn,he⟩:=hc;obtain⟨e1,e2⟩:=pS he;split at h<;>simp only[aaV,reduceCtorEq]at h
  rename_i ds hds;subst h;obtain⟨r1,r2,r3,r4⟩:=hr;generalize hκ:k7 n ext=κ at *
  have hπ:∀p i,κ p=some i->src n ext i=p:=fun p i hp=>by subst hκ;exact IB hp
  have hv:Env.via κ J (J.pull (src n ext)):=qN hπ
  have hget:∀i,ay (oQ κ U.res n U.res++fZ κ U.res ext) i=if i<n then gm κ (ay U.res i)else match ext[i-n]? with|some p=>gm κ (ay U.res p)|none=> .yet:=fun i=>by
   simp_all[cF,s7,w9,rD]
  have hkn:∀i,known (oQ κ U.res n U.res++fZ κ U.res ext) i->known U.res (src n ext i)/\κ (src n ext i)=some i/\ay (oQ κ U.res n U.res++fZ κ U.res ext) i=gm κ (ay U.res (src n ext i)):=fun i hi=>by
   unfold known at hi;rw[hget]at hi⊢;unfold src;by_cases hin:i<n
   ·rw[aa4 hin]at hi⊢;rw[aa4 hin];refine⟨fun e=>hi (mD.2 e),?_,rfl⟩
    subst hκ;unfold k7;rw[aa4 (by simpa using hin)]
   ·rw[aa3 hin]at hi⊢;rw[aa3 hin,aa2];cases hx:ext[i-n]? with
    |none=>rw[hx]at hi;exact absurd rfl hi
    |some p=>
     rw[hx]at hi;simp only[Option.getD_some];refine⟨fun e=>hi (mD.2 e),?_,trivial⟩
     subst hκ;unfold k7;have hp:=e1 p (List.mem_of_getElem? hx);rw[aa3 (by simp;omega)]
     have:∀(l:List Nat) (m k:Nat),l.Nodup->l[k]? =some p->idxOf l m p=some (m+k):=by
      intro l;induction l with
      |nil=>intro m k _ h;simp at h
      |cons x l ih=>
       intro m k hnd h;simp only[idxOf];cases k with
       |zero=>simp at h;subst h;simp
       |succ k=>
        simp at h
        have hne:(x==p)=false:=by
         grind
        rw[hne];simp only[Bool.false_eq_true,if_false];rw[ih (m+1) k (List.nodup_cons.1 hnd).2 h];congr 1;omega
     rw[this ext n (i-n) e2 hx];congr 1;omega
  have hN:∀p i,κ p=some i->known U.res p->known (oQ κ U.res n U.res++fZ κ U.res ext) i:=fun p i hp hk=>by
   unfold known;rw[hget];have hs:=hπ p i hp;unfold src at hs;by_cases hin:i<n
   ·rw[aa4 hin]at hs⊢;subst hs;exact fun e=>hk (mD.1 e)
   ·rw[aa3 hin]at hs⊢;subst hκ;unfold k7 at hp;split at hp
    ·simp only[aaV]at hp;rename_i hb;simp at hb;omega
    ·obtain⟨_,_,h3⟩:=iZ hp;rw[h3];exact fun e=>hk (mD.1 e)
  refine⟨J.pull (src n ext),fun i=>fps (src n ext i),⟨⟨by simpa[rP]using r1.1,fun t=>?_⟩,?_,?_,?_⟩,fun i hi=>?_⟩
  ·rw[uy];have:=r1.2 t;split
   ·rename_i x hx;rw[hx]at this;split
    ·rename_i y hy;obtain⟨a1,a2,_⟩:=la hv hN x y hy;exact⟨this.1.trans a1.symm,a2 this.2⟩
    ·trivial
   ·trivial
  ·refine⟨fun i hi=>hi,r2.old,r2.os,r2.tape,r2.output,fun i hi=>?_,fun i b hi=>r2.lt _ b (hkn i hi).1,fun i j b hi hj hne=>r2.disj _ _ b (hkn i hi).1 (hkn j hj).1 fun e=>hne ?_,fun i b hi=>r2.inF _ b (hkn i hi).1,r2.same⟩
   ·obtain⟨a1,a2,a3⟩:=hkn i hi;rw[a3];exact iO hv hN a2 _ _ _ (r2.holds _ a1)
   ·grind
  ·obtain⟨a1,_⟩:=rG hv hN _ _ hds;rw[r3];exact a1.symm
  ·exact(rG hv hN _ _ hds).2 r4
  ·simp[Env.pull,src,hi]
 ·simp at h
inductive Gh where
 |bl (c ty:Nat)
 |bv (c e esz:Nat) (l:TL)
 |sl (t e esz:Nat) (l:TL)
 |al (t:Nat)
 |ab (c:Nat)
 |li (t:Nat)
 |dm
def Em:TL->Bool
 | .ob l=>match l with| []=>true|_=>false
 | .key l=>match l with| []=>true|_=>false
 | .it _ l=>match l with| []=>true|_=>false
 | .bo l=>match l with| []=>true|_=>false
 | .st l=>match l with| []=>true|_=>false
 | .fn n _=>Nat.beq n 0
theorem El {l:TL} (h:Em l=true):l.len=0/\l.cells= []:=by
 cases l with
 |fn n g=>
  have:=Nat.eq_of_beq_eq_true h;subst this;exact⟨rfl,rfl⟩
 |ob l=>cases l<;>first|exact⟨rfl,rfl⟩|simp[Em]at h
 |key l=>cases l<;>first|exact⟨rfl,rfl⟩|simp[Em]at h
 |it k l=>cases l<;>first|exact⟨rfl,rfl⟩|simp[Em]at h
 |bo l=>cases l<;>first|exact⟨rfl,rfl⟩|simp[Em]at h
 |st l=>cases l<;>first|exact⟨rfl,rfl⟩|simp[Em]at h
def asV (v:V):Option (Nat×IntKind×Int):=
 match v with
 | .ag l=>match l with
   | [x,y]=>match x with
     | .sa k=>match y with
       | .it q n=>some (k,q,n)
       |_=>none
     |_=>none
   |_=>none
 |_=>none
theorem NB {v:V} {k:Nat} {q:IntKind} {n:Int} (h:asV v=some (k,q,n)):v= .ag [.sa k,.it q n]:=by
 unfold asV at h;split at h
 case h_2=>simp at h
 split at h
 case h_2=>simp at h
 split at h
 case h_2=>simp at h
 split at h
 case h_2=>simp at h
 simp only[aaV,aaW]at h;obtain⟨rfl,rfl,rfl⟩:=h;rfl
def FY (U:St):Gh->Option St
 | .bl c ty=>match ay U.res c with
   | .blk t (.ag [.nl (.slice none 0 0)])=>some {U with res:=bO U.res c (.blk t (.ag [.sa U.res.length]))++ [.obs ty (U.res.length+1) [],.gen U.res.length]}
   |_=>none
 | .bv c e esz l=>match ay U.res c with
   | .blk t (.nl (.slice none 0 0))=>if Em l then some {U with res:=bO U.res c (.blk t (.sa U.res.length))++ [.arr (some e) esz l]}else none
   |_=>none
 | .sl t e esz l=>match b9 U.slots t with
   | .v (.nl (.slice none 0 0))=>if Em l then some {U with slots:=sset (clean U.slots) t (.v (.sa U.res.length)),res:=U.res++ [.arr (some e) esz l]}else none
   |_=>none
 | .al t=>match b9 U.slots t with
   | .v (.sa k)=>match ay U.res k with
     | .ro r=>match r with
       | .arr _ esz l=>some {U with slots:=sset (clean U.slots) t (.v (.sa U.res.length)),res:=U.res++ [.arr none esz l]}
       |_=>none
     | .arr own esz l=>some {U with slots:=sset (clean U.slots) t (.v (.sa U.res.length)),res:=dC [k] U.res++ [.arr own esz l]}
     |_=>none
   |_=>none
 | .ab c=>match ay U.res c with
   | .blk t v=>match asV v with
     |some (k,q,n)=>match ay U.res k with
      | .ro r=>match r with
        | .arr _ esz l=>some {U with res:=bO U.res c (.blk t (.ag [.sa U.res.length,.it q n]))++ [.arr none esz l]}
        |_=>none
      |_=>none
     |none=>none
   |_=>none
 | .li t=>match b9 U.slots t with
   | .v v=>match v with
     | .sc k n c=>match ay U.res k with
       | .blk e x=>match R7 x with
         |some L=>if n==L.length&&c==n&&Nat.ble n 1000 then some {U with slots:=sset (clean U.slots) t (.v (.sa U.res.length)),res:=dC [k] U.res++ [.arr (some e) 163 (.ob L)]}else none
         |none=>none
       |_=>none
     |_=>none
   |_=>none
 | .dm=>some {U with res:=U.res++ [.dfr],defs:=(0,[.yl U.res.length],[])::U.defs}
def wH:List Gh->St->Option St
 | [],U=>some U
 |g::l,U=>match FY U g with
  |some σ'=>wH l σ'
  |none=>none
def Env.gA (J:Env) (i:Nat):Env:= {J with cap:=fun j=>if j=i then 0 else J.cap j,sa:=fun j=>if j=i then none else J.sa j,sn:=fun j=>if j=i then 0 else J.sn j}
theorem C8 {N:Nat->Prop} {J:Env} {i:Nat} (h:¬N i):Env.bE N J (J.gA i):=fun j hj=>by
 have:j≠i:=fun e=>h (e▸hj)
 simp[Env.gA,this]
def Env.iY (J:Env) (i k:Nat):Env:= {J with cap:=fun j=>if j=i then J.cap k else J.cap j,adr:=fun j=>if j=i then J.adr k else J.adr j,sa:=fun j=>if j=i then J.sa k else J.sa j,sn:=fun j=>if j=i then J.sn k else J.sn j}
theorem qU {N:Nat->Prop} {J:Env} {i k:Nat} (h:¬N i):Env.bE N J (J.iY i k):=fun j hj=>by
 have:j≠i:=fun e=>h (e▸hj)
 simp[Env.iY,this]
theorem P9 {K K':Nat->Prop} {J:Env} {i:Nat} {fp fp2:Nat->Prop} {w0 w:World} {F0:Nat->Prop} {own:Option Nat} {esz:Nat} {l:TL} (h:(aK.ro (.arr own esz l)).holds K J i fp w0 F0 w):(aK.arr none esz l).holds K' J i fp2 w0 F0 w:=by
 obtain⟨fp',⟨h1,h2,h3,h4,h5,h6,h7⟩,hf⟩:=h;refine⟨h1,h2,h3,h4,h5,h6,.inl ⟨rfl,?_⟩⟩;rcases h7 with⟨_,h7⟩|⟨e,_,e2,e3⟩
 ·exact h7
 ·refine⟨fun hl=>?_,fun j hj k hk=>?_⟩
  ·grind[kY]
  ·obtain⟨g,f1,f2,f3,f4⟩:=kY e2 (by omega)
   have ha:=h4 _ f1;rw[<-ha];simp only[Nat.zero_add]
   have hlt:j*esz+k<l.len*esz:=by
    have:(j+1)*esz<=l.len*esz:=Nat.mul_le_mul_right _ hj;rw[Nat.succ_mul]at this;omega
   rw[f4 _ hlt];unfold TL.cells;rw[uH (esz:=esz) (fun j hj=>by rw[bg Env.zero _ (h1 j hj).1];exact(h1 j hj).2.2) hj hk]
   rw[dV (N:=fun _=>False) (J:=J) (ρ':=Env.zero) (fun _ h=>h.elim) _ (h1 j hj).1]
theorem LI {K K':Nat->Prop} {J:Env} {i k:Nat} {w0 w:World} {F0:Nat->Prop} {esz:Nat} {l:TL} (h:(aK.arr none esz l).holds K J k (fun _=>False) w0 F0 w):(aK.arr none esz l).holds K' (J.iY i k) i (fun _=>False) w0 F0 w:=by
 obtain⟨a1,a2,a3,a4,a5,a6,a7⟩:=h;have e1:(J.iY i k).adr i=J.adr k:=by simp[Env.iY]
 have e2:(J.iY i k).sa i=J.sa k:=by simp[Env.iY]
 have e3:(J.iY i k).sn i=J.sn k:=by simp[Env.iY]
 refine⟨a1,by rw[e3];exact a2,a3,by rw[e1,e2];exact a4,by rw[e2];exact a5,by rw[e1];exact a6,?_⟩
 rcases a7 with⟨_,b1,b2⟩|⟨e,_,_,b3⟩
 ·refine .inl ⟨rfl,by rw[e1];exact b1,fun j hj x hx=>?_⟩
  rw[e1,b2 j hj x hx,dV (N:=fun _=>False) (J:=J) (ρ':=J.iY i k) (fun _ h=>h.elim) _ (a1 j hj).1]
 ·by_cases hl:0<l.len
  ·have:=a5 hl;cases hs:J.sa k with
   |none=>rw[hs]at this;simp at this
   |some x=>exact(b3 x hs).elim
  ·exact .inl ⟨rfl,fun h=>absurd h hl,fun j hj=>absurd (Nat.lt_of_le_of_lt (Nat.zero_le _) hj) hl⟩
theorem Tq {J:Env} {fps:Nat->Nat->Prop} {w0:World} {F0:Nat->Prop} {w:World} {res:List aK} {k esz:Nat} {own:Option Nat} {l:TL} (h:bq J fps res (known res) w0 F0 w) (hrk:ay res k= .arr own esz l):
  ∃fps',bq (J.iY res.length k) fps' (dC [k] res++ [.arr own esz l]) (known (dC [k] res++ [.arr own esz l])) w0 F0 w/\Env.bE (known res) J (J.iY res.length k)/\(∀i,known res i->known (dC [k] res++ [.arr own esz l]) i)/\known (dC [k] res++ [.arr own esz l]) res.length:=by
 have hkk:known res k:=by unfold known;rw[hrk];simp
 have hn:¬known res res.length:=by
  simp_all[known,m9]
 have hh:=h.holds k hkk;rw[hrk]at hh;obtain⟨a1,a2,a3,a4,a5,a6,a7⟩:=hh;have e1:(J.iY res.length k).adr res.length=J.adr k:=by simp[Env.iY]
 have e2:(J.iY res.length k).sa res.length=J.sa k:=by simp[Env.iY]
 have e3:(J.iY res.length k).sn res.length=J.sn k:=by simp[Env.iY]
 have e4:(J.iY res.length k).sl res.length=J.sl k:=by simp[Env.iY,Env.sl]
 refine h.y9 [k] (.arr own esz l) [] (fps k) (by simp) (by simpa using hkk) (by simp) (qU hn) ?_ (fun b hb=> .inl ⟨k,by simp,hb⟩) rfl rfl rfl (Nat.le_refl _) (fun b _ _=>rfl)
 refine⟨a1,by rw[e3];exact a2,a3,by rw[e1,e2];exact a4,by rw[e2];exact a5,by rw[e1];exact a6,?_⟩
 rcases a7 with⟨b0,b1,b2⟩|⟨e,b1,b2,b3⟩
 ·refine .inl ⟨b0,by rw[e1];exact b1,fun j hj x hx=>?_⟩
  rw[e1,b2 j hj x hx,dV (N:=fun _=>False) (J:=J) (ρ':=J.iY res.length k) (fun _ h=>h.elim) _ (a1 j hj).1]
 ·exact .inr ⟨e,b1,by rw[e4];exact b2,by rw[e2];exact b3⟩
theorem tv {J:Env} {i:Nat}:den (J.gA i) (.sa i)= .slice none 0 0:=by simp[den,Env.gA]
section
variable {J:Env} {fps:Nat->Nat->Prop} {w0 w:World} {F0:Nat->Prop} {a:Act}
theorem bq.beside {res:List aK} (h:bq J fps res (known res) w0 F0 w) {ρ':Env} (hag:Env.bE (known res) J ρ') (res1 new:List aK) (hl:res1.length=res.length)
  (h1:∀i,i<res.length->ay res1 i=ay res i\/(known res i/\known res1 i/\(ay res1 i).holds (known (res1++new)) ρ' i (fps i) w0 F0 w))
  (h2:∀k,k<new.length->(ay new k).holds (known (res1++new)) ρ' (res.length+k) (fun _=>False) w0 F0 w):
  ∃fps',bq ρ' fps' (res1++new) (known (res1++new)) w0 F0 w/\Env.bE (known res) J ρ'/\∀i,known res i->known (res1++new) i:=by
 have hget:∀i,ay (res1++new) i=if i<res.length then ay res1 i else ay new (i-res.length):=fun i=>by rw[cF,hl]
 have hmono:∀i,known res i->known (res1++new) i:=fun i hi=>by
  grind[aO,known]
 obtain⟨fps',g⟩:=h.turn (res':=res1++new) (K':=known (res1++new)) (fun i=>known res i/\known res1 i/\(ay res1 i).holds (known (res1++new)) ρ' i (fps i) w0 F0 w)
  (fun i=>(known res i/\known res1 i/\(ay res1 i).holds (known (res1++new)) ρ' i (fps i) w0 F0 w)\/res.length<=i) (fun i b=>i<res.length/\fps i b/\known res i) (fun i hi=>hi) hmono hag
  (fun i hi hb=>by
   have hlt:i<res.length:=by
    rcases Nat.lt_or_ge i res.length with h|h
    ·exact h
    ·exact absurd (.inr h) hb
   have hno:=fun h=>hb (.inl h)
   rcases h1 i hlt with e|e
   ·have e2:ay (res1++new) i=ay res i:=by rw[hget,aa4 hlt,e]
    exact⟨by unfold known at hi⊢;rw[e2]at hi;exact hi,hno,e2⟩
   ·exact absurd e hno)
  (fun i hi hb=>by
   by_cases hlt:i<res.length
   ·rcases hb with⟨b1,b2,b3⟩|hb
    ·refine⟨?_,fun b hf=> .inl ⟨i,⟨b1,b2,b3⟩,b1,hf.2.1⟩⟩
     rw[hget,aa4 hlt];have:(fun b=>i<res.length/\fps i b/\known res i)=fps i:=by funext b;simp[hlt,b1]
     rw[this];exact b3
    ·omega
   ·refine⟨?_,fun b hf=>absurd hf.1 hlt⟩
    rw[hget,aa3 hlt];have:(fun b=>i<res.length/\fps i b/\known res i)=fun _=>False:=by funext b;simp[hlt]
    rw[this]
    have hk:i-res.length<new.length:=by
     unfold known at hi;rw[hget,aa3 hlt]at hi;exact aO hi
    have:=h2 (i-res.length) hk;rw[show res.length+(i-res.length)=i by omega]at this
    exact this)
  (fun i j b _ _ hne hf hf'=>h.disj i j b hf.2.2 hf'.2.2 hne hf.2.1 hf'.2.1) rfl rfl rfl (Nat.le_refl _) (fun _ _ _=>rfl)
 exact⟨fps',g,hag,hmono⟩
theorem LM {res:List aK} {k n e:Nat} {x:V} {L:List Obj} (hH:bq J fps res (known res) w0 F0 w) (hr:ay res k= .blk e x) (hl:R7 x=some L) (hn:n=L.length) (hs:n<=1000):
  ∃fps',bq (J.gZ res.length (some ⟨J.num k,0,none⟩) n n) fps' (dC [k] res++ [.arr (some e) 163 (.ob L)]) (known (dC [k] res++ [.arr (some e) 163 (.ob L)])) w0 F0 w/\Env.bE (known res) J (J.gZ res.length (some ⟨J.num k,0,none⟩) n n)/\
   (∀i,known res i->known (dC [k] res++ [.arr (some e) 163 (.ob L)]) i)/\known (dC [k] res++ [.arr (some e) 163 (.ob L)]) res.length:=by
 have hk:known res k:=by unfold known;rw[hr];simp
 have hh:=hH.holds k hk;rw[hr]at hh;obtain⟨h1,_,h3,h4⟩:=hh;obtain⟨hcells,hwf⟩:=Ji hl h1;have hcells:=hcells J;have hnk:¬known res res.length:=fun hk=>by have:=aO hk;omega
 have hlen:(TL.ob L).cells.length=n*163:=by
  unfold TL.cells;rw[hn]
  exact u9 fun j hj=>by
   rw[show(TL.ob L).get j=V.ob (aj L j free)from rfl,jT];exact nC _
 have hag:=uD (N:=known res) J (i:=res.length) (a:=some ⟨J.num k,0,none⟩) (n:=n) (cap:=n) hnk
 exact hH.y9 (ρ':=J.gZ res.length (some ⟨J.num k,0,none⟩) n n) (w':=w) [k] (.arr (some e) 163 (.ob L)) [] (fun x=>x=J.num k) (by simp) (by simpa using hk) (by simp) hag
  (by
   refine⟨fun j hj=>⟨hwf j hj,rfl,rfl⟩,by simp[Env.gZ,TL.len,hn,ai],by simp only[TL.len,ai];omega,fun a ha=>by simp[Env.gZ]at ha⊢;exact ha.symm,fun _=>by simp[Env.gZ],fun _=>by simp[Env.gZ],.inr ⟨e,fun e' he=>by simpa using he.symm,?_,fun a ha=>by simp[Env.gZ]at ha;rw[<-ha]⟩⟩
   rw[show(J.gZ res.length (some ⟨J.num k,0,none⟩) n n).sl res.length= .slice (some ⟨J.num k,0,none⟩) n n by simp[Env.sl,Env.gZ]]
   rw[hcells]at h4;refine⟨by rw[hlen,hn];rfl,.inr ⟨_,_,_,by rw[hn];rfl,Nat.zero_le _,h4,by rw[show(TL.ob L).len=L.length from rfl];exact Nat.le_refl _,by simp only[maxLen];rw[<-hn];omega,by rw[<-hn];simpa using hlen,?_⟩⟩
   have hh:(TL.ob L).len*163=n*163:=by rw[hn];rfl
   rw[hh];exact List.take_of_length_le (by simpa using Nat.le_of_eq hlen))
  (fun x hx=> .inl ⟨k,by simp,by rw[hx];exact h3⟩) rfl rfl rfl (Nat.le_refl _) (fun _ _ _=>rfl)
theorem FQ {U σ':St} {g:Gh} (h:FY U g=some σ') (hr:lJ J fps U w0 F0 a w):∃ρ' fps',lJ ρ' fps' σ' w0 F0 a w/\Good J U.res ρ' σ'.res:=by
 have hnk:¬known U.res U.res.length:=fun hk=>by have:=aO hk;omega
 have hag:Env.bE (known U.res) J (J.gA U.res.length):=C8 hnk;have hr0:=hr;obtain⟨r1,r2,r3,r4⟩:=hr;have cell1:∀(l:List V),bp (J.gA U.res.length) l=bp (J.gA U.res.length) l:=fun _=>rfl
 unfold FY at h;split at h
 ·rename_i c ty;split at h<;>simp only[aaV,reduceCtorEq]at h
  rename_i t hc;subst h;have hkc:known U.res c:=by unfold known;rw[hc];simp
  have hlt:=aO hkc;have hh:=r2.holds c hkc;rw[hc]at hh;obtain⟨_,_,h3,h4⟩:=hh
  have hkn:known (bO U.res c (.blk t (.ag [.sa U.res.length]))++ [.obs ty (U.res.length+1) [],.gen U.res.length]) U.res.length:=by
   simp_all[known,cF,cE,ay]
  have hkn':known (bO U.res c (.blk t (.ag [.sa U.res.length]))++ [.obs ty (U.res.length+1) [],.gen U.res.length]) (U.res.length+1):=by
   unfold known;rw[cF,cE,aa3 (by omega),show U.res.length+1-U.res.length=1 by omega];simp[ay]
  obtain⟨fps',g1,g2,g3⟩:=r2.beside hag (bO U.res c (.blk t (.ag [.sa U.res.length]))) [.obs ty (U.res.length+1) [],.gen U.res.length] (cE _ _ _)
   (fun i hi=>by
    rw[bJ _ _ _ _ hlt];by_cases e:i=c
    ·subst e;refine .inr ⟨hkc,by unfold known;rw[bJ _ _ _ _ hlt];simp,?_⟩
     simp only[if_true];refine⟨⟨⟨hkn,trivial⟩,trivial,trivial⟩,rfl,by rw[(hag i hkc).1];exact h3,?_⟩
     rw[(hag i hkc).1,h4];rw[fE,fE];simp only[bp,tv];rfl
    ·exact .inl (by rw[aa3 e]))
   (fun k hk=>by
    have:k=0\/k=1:=by simp at hk;omega
    rcases this with rfl|rfl
    ·simp only[Nat.add_zero];refine⟨hkn',by simp,by simp[Env.gA],by simp,by simp[Env.gA],by simp,?_,by simp⟩
     have:(J.gA U.res.length).sl U.res.length= .slice none 0 0:=by simp[Env.sl,Env.gA]
     rw[this];exact World.ownsRow_nil w 0 ty 1
    ·trivial)
  obtain⟨d1,d2⟩:=fI r4 g2 g3;exact⟨_,fps',⟨r1.env g3 g2,g1,by rw[r3];exact d1.symm,d2⟩,g2,g3⟩
 ·rename_i c e esz l;split at h
  ·rename_i t hc;split at h<;>simp only[aaV,reduceCtorEq]at h
   rename_i hl;obtain⟨l1,l2⟩:=El hl;subst h;have hkc:known U.res c:=by unfold known;rw[hc];simp
   have hlt:=aO hkc;have hh:=r2.holds c hkc;rw[hc]at hh;obtain⟨_,_,h3,h4⟩:=hh
   have hkn:known (bO U.res c (.blk t (.sa U.res.length))++ [.arr (some e) esz l]) U.res.length:=by
    simp_all[known,cF,cE,ay]
   obtain⟨fps',g1,g2,g3⟩:=r2.beside hag (bO U.res c (.blk t (.sa U.res.length))) [.arr (some e) esz l] (cE _ _ _)
    (fun i hi=>by
     rw[bJ _ _ _ _ hlt];by_cases e:i=c
     ·subst e;refine .inr ⟨hkc,by unfold known;rw[bJ _ _ _ _ hlt];simp,?_⟩
      simp only[if_true];refine⟨hkn,rfl,by rw[(hag i hkc).1];exact h3,?_⟩
      rw[(hag i hkc).1,h4];simp only[cells,tv];rfl
     ·exact .inl (by rw[aa3 e]))
    (fun k hk=>by
     have:k=0:=by simp at hk;omega
     subst this;simp only[Nat.add_zero];have hs:(J.gA U.res.length).sl U.res.length= .slice none 0 0:=by simp[Env.sl,Env.gA]
     refine⟨fun j hj=>by omega,by simp[Env.gA,l1],by omega,by simp[Env.gA],fun hj=>by omega,fun hj=>by omega,.inr ⟨e,by simp,?_,by simp[Env.gA]⟩⟩
     rw[hs,l1,l2];exact World.ownsRow_nil w 0 e esz)
   obtain⟨d1,d2⟩:=fI r4 g2 g3;exact⟨_,fps',⟨r1.env g3 g2,g1,by rw[r3];exact d1.symm,d2⟩,g2,g3⟩
  ·simp at h
 ·rename_i t e esz l;split at h
  ·rename_i ht;split at h<;>simp only[aaV,reduceCtorEq]at h
   rename_i hl;obtain⟨l1,l2⟩:=El hl;subst h
   have hkn:known (U.res++ [.arr (some e) esz l]) U.res.length:=by
    unfold known;rw[cF,aa3 (by omega)];simp[ay]
   obtain⟨fps',g1,g2,g3⟩:=r2.beside hag U.res [.arr (some e) esz l] rfl (fun i _=> .inl rfl)
    (fun k hk=>by
     have:k=0:=by simp at hk;omega
     subst this;simp only[Nat.add_zero];have hs:(J.gA U.res.length).sl U.res.length= .slice none 0 0:=by simp[Env.sl,Env.gA]
     refine⟨fun j hj=>by omega,by simp[Env.gA,l1],by omega,by simp[Env.gA],fun hj=>by omega,fun hj=>by omega,.inr ⟨e,by simp,?_,by simp[Env.gA]⟩⟩
     rw[hs,l1,l2];exact World.ownsRow_nil w 0 e esz)
   obtain⟨d1,d2⟩:=fI r4 g2 g3;refine⟨_,fps',⟨⟨by rw[ib,ka];exact r1.1,fun u=>?_⟩,g1,by rw[r3];exact d1.symm,d2⟩,g2,g3⟩
   have hc:=(r1.clean.env g3 g2).2 u;rw[gI];by_cases e:u=t/\t<(clean U.slots).length
   ·rw[aa4 e];obtain⟨rfl,_⟩:=e;have:=r1.2 u;rw[ht]at this;refine⟨?_,hkn⟩;rw[this.1,tv];rfl
   ·rw[aa3 e];rw[kQ]at hc⊢;cases hs:b9 U.slots u<;>rw[hs]at hc<;>exact hc
  ·simp at h
 ·rename_i t;split at h
  case h_2=>simp at h
  rename_i k ht;split at h
  case h_3=>simp at h
  case h_2=>
   rename_i own esz l hrk;simp only[aaV]at h;subst h;obtain⟨fps',g1,g2,g3,g4⟩:=Tq r2 hrk;obtain⟨d1,d2⟩:=fI r4 g2 g3;refine⟨_,fps',⟨⟨by rw[ib,ka];exact r1.1,fun u=>?_⟩,g1,by rw[r3];exact d1.symm,d2⟩,g2,g3⟩
   have hc:=(r1.clean.env g3 g2).2 u;rw[gI];by_cases e:u=t/\t<(clean U.slots).length
   ·rw[aa4 e];obtain⟨rfl,_⟩:=e;have:=r1.2 u;rw[ht]at this;refine⟨?_,g4⟩;rw[this.1];simp[den,Env.iY]
   ·rw[aa3 e];rw[kQ]at hc⊢;cases hs:b9 U.slots u<;>rw[hs]at hc<;>exact hc
  rename_i r hrk;split at h
  case h_2=>simp at h
  rename_i own esz l;simp only[aaV]at h;subst h;have hkk:known U.res k:=by unfold known;rw[hrk];simp
  have hkl:=aO hkk;have hne:k≠U.res.length:=by omega
  have hag:Env.bE (known U.res) J (J.iY U.res.length k):=qU hnk
  have hkn:known (U.res++ [.arr none esz l]) U.res.length:=by
   unfold known;rw[cF,aa3 (by omega)];simp[ay]
  have hro:=r2.holds k hkk;rw[hrk]at hro
  obtain⟨fps',g1,g2,g3⟩:=r2.beside hag U.res [.arr none esz l] rfl (fun i _=> .inl rfl)
   (fun m hm=>by
    have:m=0:=by simp at hm;omega
    subst this;exact LI (P9 (K':=fun _=>True) (fp2:=fun _=>False) hro))
  obtain⟨d1,d2⟩:=fI r4 g2 g3;refine⟨_,fps',⟨⟨by rw[ib,ka];exact r1.1,fun u=>?_⟩,g1,by rw[r3];exact d1.symm,d2⟩,g2,g3⟩
  have hc:=(r1.clean.env g3 g2).2 u;rw[gI];by_cases e:u=t/\t<(clean U.slots).length
  ·rw[aa4 e];obtain⟨rfl,_⟩:=e;have:=r1.2 u;rw[ht]at this;refine⟨?_,hkn⟩;rw[this.1];simp[den,Env.iY]
  ·rw[aa3 e];rw[kQ]at hc⊢;cases hs:b9 U.slots u<;>rw[hs]at hc<;>exact hc
 ·rename_i c;split at h
  case h_2=>simp at h
  rename_i t v hc;split at h
  case h_2=>simp at h
  rename_i k q n hv;have hv:=NB hv;subst hv;split at h
  case h_2=>simp at h
  rename_i r hrk;split at h
  case h_2=>simp at h
  rename_i own esz l;simp only[aaV]at h;subst h;have hkk:known U.res k:=by unfold known;rw[hrk];simp
  have hkc:known U.res c:=by unfold known;rw[hc];simp
  have hlt:=aO hkc;have hag:Env.bE (known U.res) J (J.iY U.res.length k):=qU hnk
  have hkn:known (bO U.res c (.blk t (.ag [.sa U.res.length,.it q n]))++ [.arr none esz l]) U.res.length:=by
   unfold known;rw[cF,cE,aa3 (by omega)];simp[ay]
  have hro:=r2.holds k hkk;rw[hrk]at hro;have hh:=r2.holds c hkc;rw[hc]at hh;obtain⟨b1,b2,b3,b4⟩:=hh
  obtain⟨fps',g1,g2,g3⟩:=r2.beside hag (bO U.res c (.blk t (.ag [.sa U.res.length,.it q n]))) [.arr none esz l] (cE _ _ _)
   (fun i hi=>by
    rw[bJ _ _ _ _ hlt];by_cases e:i=c
    ·subst e;refine .inr ⟨hkc,by unfold known;rw[bJ _ _ _ _ hlt];simp,?_⟩
     simp only[if_true];refine⟨⟨⟨hkn,b1.1.2.1,trivial⟩,b1.2⟩,b2,by rw[(hag i hkc).1];exact b3,?_⟩
     rw[(hag i hkc).1,b4,fE,fE];simp[bp,cells,den,Env.iY]
    ·exact .inl (by rw[aa3 e]))
   (fun m hm=>by
    have:m=0:=by simp at hm;omega
    subst this;exact LI (P9 (K':=fun _=>True) (fp2:=fun _=>False) hro))
  obtain⟨d1,d2⟩:=fI r4 g2 g3;exact⟨_,fps',⟨r1.env g3 g2,g1,by rw[r3];exact d1.symm,d2⟩,g2,g3⟩
 ·rename_i t;split at h
  case h_2=>simp at h
  rename_i v ht;split at h
  case h_2=>simp at h
  rename_i k n c;split at h
  case h_2=>simp at h
  rename_i e x hrk;split at h
  case h_2=>simp at h
  rename_i L hL;split at h
  case isFalse=>simp at h
  rename_i hb;simp only[aaX,aaZ,Nat.ble_eq]at hb;obtain⟨⟨hn,rfl⟩,hle⟩:=hb;simp only[aaV]at h;subst h;obtain⟨fps',g1,g2,g3,g4⟩:=LM r2 hrk hL hn hle;obtain⟨d1,d2⟩:=fI r4 g2 g3;refine⟨_,fps',⟨⟨by rw[ib,ka];exact r1.1,fun u=>?_⟩,g1,by rw[r3];exact d1.symm,d2⟩,g2,g3⟩
  have hc:=(r1.clean.env g3 g2).2 u;rw[gI];by_cases e:u=t/\t<(clean U.slots).length
  ·rw[aa4 e];obtain⟨rfl,_⟩:=e;have:=r1.2 u;rw[ht]at this;refine⟨?_,g4⟩;rw[this.1];simp[den,Env.gZ]
  ·rw[aa3 e];rw[kQ]at hc⊢;cases hs:b9 U.slots u<;>rw[hs]at hc<;>exact hc
 ·simp only[aaV]at h;subst h
  obtain⟨fps',g1,g2,g3⟩:=r2.beside hag U.res [.dfr] rfl (fun i hi=> .inl rfl) (fun k hk=>by
   simp only[List.length_singleton,Nat.lt_one_iff]at hk;subst hk;refine⟨fun j hj=>?_,fun j k hj=>?_⟩
   ·simp[Env.gA]at hj
   ·simp[Env.gA]at hj)
  obtain⟨d1,d2⟩:=fI r4 g2 g3;refine⟨_,fps',⟨r1.env g3 g2,g1,?_,fun d hd=>?_⟩,g2,g3⟩
  ·rw[List.flatMap_cons,d1,r3];simp[lN,BO,Env.gA]
  ·rcases List.mem_cons.1 hd with rfl|hd
   ·refine⟨⟨?_,trivial⟩,trivial⟩;show known (U.res++ [.dfr]) U.res.length
    unfold known;rw[cF,aa3 (by omega)]
    simp[ay]
   ·exact d2 d hd
def Env.zH (J:Env) (i p q:Nat):Env:= {J with sn:=fun j=>if j=i then J.sn p+J.sn q else J.sn j,ob:=fun j=>if j=i then fun x=>if x<J.sn p then J.ob p x else J.ob q (x-J.sn p)else J.ob j}
def FX (n:Nat) (U:St):Option St:=
 match U.defs with
 |d1::l=>match l with
  |d2::rest=>match BO d1.2.1 with
   |some p=>match BO d2.2.1 with
    |some q=>match ay U.res p with
     | .dfr=>match ay U.res q with
       | .dfr=>if p==q||Nat.blt U.res.length n then none else some {U with defs:=(0,[.yl U.res.length],[])::rest,res:=dC [p,q] U.res++ [.dfr]}
       |_=>none
     |_=>none
    |none=>none
   |none=>none
  | []=>none
 | []=>none
def EO (n:Nat):Nat->St->Option St
 |0,U=>some U
 |k+1,U=>match FX n U with
  |some s=>EO n k s
  |none=>none
theorem Gb {α:Type} (f g h:Nat->α) (m k:Nat) (h1:∀j,j<m->f j=g j) (h2:∀j,j<k->f (m+j)=h j):(List.range (m+k)).map f=(List.range m).map g++(List.range k).map h:=by
 induction k with
 |zero=>simp only[Nat.add_zero,List.range_zero,List.map_nil,List.append_nil];exact List.map_congr_left fun j hj=>h1 j (List.mem_range.1 hj)
 |succ k ih=>
  rw[<-Nat.add_assoc,List.range_succ,List.range_succ,List.map_append,List.map_append,ih fun j hj=>h2 j (by omega),List.append_assoc]
  simp[h2 k (by omega)]
theorem Gx {n:Nat} {U σ':St} (h:FX n U=some σ') (hr:lJ J fps U w0 F0 a w):∃ρ' fps',lJ ρ' fps' σ' w0 F0 a w/\Env.bE (fun i=>i<n) J ρ':=by
 obtain⟨r1,r2,r3,r4⟩:=hr;unfold FX at h;split at h
 case h_2=>simp at h
 rename_i d1 l hd;split at h
 case h_2=>simp at h
 rename_i d2 rest;split at h
 case h_2=>simp at h
 rename_i p hp;split at h
 case h_2=>simp at h
 rename_i q hq;split at h
 case h_2=>simp at h
 rename_i hrp;split at h
 case h_2=>simp at h
 rename_i hrq;split at h
 case isTrue=>simp at h
 rename_i hc;simp only[aaV]at h;subst h;simp only[Bool.or_eq_true,aaZ,not_or]at hc;obtain⟨hpq,hn⟩:=hc
 have hn:n<=U.res.length:=by
  simp_all
 have hkp:known U.res p:=by unfold known;rw[hrp];simp
 have hkq:known U.res q:=by unfold known;rw[hrq];simp
 have hlp:=aO hkp;have hlq:=aO hkq;have hP:=r2.holds p hkp;have hQ:=r2.holds q hkq;rw[hrp]at hP;rw[hrq]at hQ;obtain⟨P1,P2⟩:=hP;obtain⟨Q1,Q2⟩:=hQ
 have hag:Env.bE (fun i=>i<U.res.length) J (J.zH U.res.length p q):=fun i hi=>by
  grind[Env.zH]
 have hagk:Env.bE (known U.res) J (J.zH U.res.length p q):=hag.mono fun i hi=>aO hi
 obtain⟨fps',g1,g2,g3,g4⟩:=r2.y9 (w':=w) (ρ':=J.zH U.res.length p q) [p,q] .dfr [] (fun b=>fps p b\/fps q b) (by simp) (fun t ht=>by
   rcases List.mem_cons.1 ht with rfl|ht
   ·exact hkp
   ·simp at ht;subst ht;exact hkq) (by simp) hagk
  (by
   refine⟨fun j hj=>?_,fun j k hj hk e=>?_⟩
   ·simp only[Env.zH,if_true]at hj⊢;by_cases hjp:j<J.sn p
    ·rw[aa4 hjp];exact⟨.inl (P1 j hjp).1,(P1 j hjp).2⟩
    ·rw[aa3 hjp];exact⟨.inr (Q1 _ (by omega)).1,(Q1 _ (by omega)).2⟩
   ·simp only[Env.zH,if_true]at hj hk e;by_cases hjp:j<J.sn p<;>by_cases hkp':k<J.sn p
    ·rw[aa4 hjp,aa4 hkp']at e;exact P2 j k hjp hkp' e
    ·rw[aa4 hjp,aa3 hkp']at e;exact absurd (by rw[e];exact(Q1 _ (by omega)).1) (r2.disj p q _ hkp hkq hpq (P1 j hjp).1)
    ·rw[aa3 hjp,aa4 hkp']at e;exact absurd (by rw[<-e];exact(Q1 _ (by omega)).1) (r2.disj p q _ hkp hkq hpq (P1 k hkp').1)
    ·rw[aa3 hjp,aa3 hkp']at e;have:=Q2 _ _ (by omega) (by omega) e
     omega)
  (fun b hb=> .inl (hb.elim (fun h=>⟨p,by simp,h⟩) fun h=>⟨q,by simp,h⟩)) rfl rfl rfl (Nat.le_refl _) (fun _ _ _=>rfl)
 have hl:∀d∈rest,fM (known U.res) d.2.1/\fM (known U.res) d.2.2:=fun d hd'=>r4 d (by rw[hd];simp[hd'])
 obtain⟨e1,e2⟩:=fI hl hagk g3;refine⟨_,fps',⟨r1.env g3 hagk,g1,?_,fun d hd'=>?_⟩,hag.mono fun i hi=>by omega⟩
 ·rw[r3,hd];simp only[List.flatMap_cons];rw[e1,<-List.append_assoc];congr 1
  unfold lN;rw[hp,hq];simp only[BO];simp only[Env.zH,if_true];exact(Gb _ _ _ _ _ (fun j hj=>by rw[aa4 hj]) fun j hj=>by rw[aa3 (by omega),show J.sn p+j-J.sn p=j by omega]).symm
 ·rcases List.mem_cons.1 hd' with rfl|hd'
  ·exact⟨⟨g4,trivial⟩,trivial⟩
  ·exact e2 d hd'
theorem AQ {n:Nat}:∀{k:Nat} {U σ':St} {J:Env} {fps:Nat->Nat->Prop},EO n k U=some σ'->lJ J fps U w0 F0 a w->∃ρ' fps',lJ ρ' fps' σ' w0 F0 a w/\Env.bE (fun i=>i<n) J ρ'
 |0,U,σ',J,fps,h,hr=>by simp only[EO,aaV]at h;subst h;exact⟨J,fps,hr,Env.bE.refl _ _⟩
 |k+1,U,σ',J,fps,h,hr=>by
  simp only[EO]at h;split at h
  ·rename_i s hs;obtain⟨ρ1,fps1,g1,g2⟩:=Gx hs hr;obtain⟨ρ2,fps2,g3,g4⟩:=AQ h g1;exact⟨ρ2,fps2,g3,g2.trans g4 fun i hi=>hi⟩
  ·simp at h
theorem tZ:∀{l:List Gh} {U σ':St} {J:Env} {fps:Nat->Nat->Prop},wH l U=some σ'->lJ J fps U w0 F0 a w->∃ρ' fps',lJ ρ' fps' σ' w0 F0 a w/\Good J U.res ρ' σ'.res
 | [],U,σ',J,fps,h,hr=>by simp only[wH,aaV]at h;subst h;exact⟨J,fps,hr,Good.refl _ _⟩
 |g::l,U,σ',J,fps,h,hr=>by
  simp only[wH]at h;split at h
  ·rename_i σ1 h1;obtain⟨ρ1,fps1,g1,g2⟩:=FQ h1 hr;obtain⟨ρ2,fps2,g3,g4⟩:=tZ h g1;exact⟨ρ2,fps2,g3,g2.trans g4⟩
  ·simp at h
end
inductive Out where
 |norm
 |exit (i:Nat)
 |goto (l:Nat)
 |ret
 |pan (v:V)
def Ey (J:Env) (res:List aK):Exit->Out->Prop
 | .normal,.norm=>True
 | .exit i,.exit j=>i=j
 | .goto i,.goto j=>i=j
 | .ret,.ret=>True
 | .panic chain,.pan v=>chain= [{v:=den J v,recovered:=false}]/\ok (known res) v
 |_,_=>False
def gW (ρ0:Env) (res0:List aK) (w0:World) (F0:Nat->Prop) (K:Out->St->Prop):Exit->Act->World->Prop:=fun e a w=>
 ∃out U J fps,Ey J U.res e out/\K out U/\lJ J fps U w0 F0 a w/\Good ρ0 res0 J U.res
theorem gW.Ir {ρ0:Env} {res0:List aK} {w0:World} {F0:Nat->Prop} {K:Out->St->Prop}:¬LetsOut (gW ρ0 res0 w0 F0 K):=by
 rintro⟨a,w,out,U,J,fps,h1,_⟩
 cases out<;>exact h1
theorem gW.mono {ρ0:Env} {res0:List aK} {w0:World} {F0:Nat->Prop} {K K':Out->St->Prop} {e:Exit} {a:Act} {w:World} (h:gW ρ0 res0 w0 F0 K e a w) (hK:∀o U,K o U->K' o U):
  gW ρ0 res0 w0 F0 K' e a w:=
 let ⟨o,U,J,fps,h1,h2,h3,h4⟩:=h
 ⟨o,U,J,fps,h1,hK _ _ h2,h3,h4⟩
def aR (ds:List (Option Nat×Nat)) (i:Nat):Nat:=
 match ds[i]? with
 |some p=>p.2
 |none=>0
def jX (ds:List (Option Nat×Nat)) (es:List Edge):Nat:=
 match es with
 | []=>0
 |e::l=>if Region.binds .any e then(2^e.on ||| aR ds e.on) ||| jX ds l else jX ds l
def SG:List Oper->List (Option Nat×Nat)->List (Option Nat×Nat)
 | [],acc=>acc
 |o::l,acc=>SG l (acc++ [(o.dst,jX acc o.after.toList)])
def PF:Option Nat->Option Nat->Bool
 |some a,some b=> !(a==b)
 |_,_=>true
def sX:List (Option Nat×Nat)->Bool
 | []=>true
 |p::l=>l.all (fun q=>PF p.1 q.1)&&sX l
def Fu (ds:List (Option Nat×Nat)):Nat->List Oper->List (Option Nat×Nat)->Bool
 |i,o::l,d::m=>(match o.dst,d.1 with|none,none=>true|some a,some b=>a==b|_,_=>false)&&jX ds o.after.toList==d.2&&Nat.ble (d.2+1) (2^i)
  &&(List.range i).all (fun j=> !(Nat.testBit d.2 j)||((aR ds j ||| d.2)==d.2))&&Fu ds (i+1) l m
 |_,[],[]=>true
 |_,_,_=>false
def eR (anc i:Nat):Nat->List (Option Nat×Nat)->List S->List S->List S
 |j,(some d,_)::ds,s::done,sl=>eR anc i (j+1) ds done (sset sl d (if Nat.testBit anc j then s else .und))
 |j,(some d,m)::ds,[],sl=>if j==i||Nat.testBit m i then eR anc i (j+1) ds [] sl else eR anc i (j+1) ds [] (sset sl d .und)
 |j,(none,_)::ds,done,sl=>eR anc i (j+1) ds done.tail sl
 |_,[],_,sl=>sl
structure Dr where
 s:S
 g:Bool
 q:Option Prop
 new:List aK
 up:Option (Nat×aK):=none
def Ah:List aK->List aK
 | []=> []
 |_::l=> .yet::Ah l
def iU (p:Nat->Bool):Nat->List Dr->List aK
 |_,[]=> []
 |j,d::l=>match d.new with
  | []=>iU p (j+1) l
  |r::n=>(if p j then r::n else .yet::Ah n)++iU p (j+1) l
def lens:List Dr->Nat
 | []=>0
 |d::l=>d.new.length+lens l
def wy:List Dr->List S
 | []=> []
 |d::l=>d.s::wy l
def H6 (m:Nat):Option (Nat×Bool)->Bool
 |none=>true
 |some (j,_)=>Nat.testBit m j
def vV (C:Ctx) (ops:List Oper) (D:List S) (R:List aK) (nid:Nat) (o:Oper):Option Dr:=
 if abB C.P D o then match sF D ops o.guard with
 |none=>none
 |some none=>some {s:= .ud,g:=false,q:=none,new:= []}
 |some (some ch)=>match Ck C D R nid ch o.op with
  |some (q,x,new)=>match ch with
   | []=>some {s:= .v x,g:=true,q:=q,new:=new}
   |c::ch=>if new.isEmpty then some {s:= .gv (c::ch) x,g:=mQ D (c::ch),q:=q,new:= []}else some {s:= .v x,g:=true,q:=some (mQ D (c::ch)=true/\dX q),new:=new}
  |none=>none
 else none
def Fj (n:Nat):Option Nat->Bool
 |none=>true
 |some d=>Nat.blt d n
def J3 (p:Nat->Bool):Nat->List Dr->List aK->List aK
 |_,[],R=>R
 |j,d::l,R=>match d.up with
  |none=>J3 p (j+1) l R
  |some u=>if p j then J3 p (j+1) l (bO R u.1 u.2)else J3 p (j+1) l R
def BS (ds:List (Option Nat×Nat)) (i:Nat):List (Nat×Nat)->List aK->List aK
 | [],R=>R
 |u::h,R=>if u.1==i||Nat.testBit (aR ds i) u.1||Nat.testBit (aR ds u.1) i then BS ds i h R else BS ds i h (bO R u.2 .yet)
def vw (ds:List (Option Nat×Nat)) (hid:List (Nat×Nat)) (res:List aK) (done:List Dr) (i:Nat):List aK:=
 BS ds i hid (J3 (Nat.testBit (aR ds i)) 0 done (oS res (iU (Nat.testBit (aR ds i)) 0 done)))
def uC:Nat->List Dr->List (Nat×Nat)
 |_,[]=> []
 |j,d::l=>match d.up with
  |none=>uC (j+1) l
  |some u=>(j,u.1)::uC (j+1) l
def AS:List (Nat×Nat)->List (Nat×Nat)->Bool
 | [],[]=>true
 |a::l,b::m=>a.1==b.1&&a.2==b.2&&AS l m
 |_,_=>false
def zT (C:Ctx) (D:List S) (R:List aK) (o:Oper):Option Dr:=
 match o.op with
 | .store t p x=>match o.dst with
   |none=>match o.guard with
    |none=>match fm D [] p with
     |some pv=>match pv with
      | .lp id off=>match fm D [] x with
        |some y=>if oZ C.P t==some (fg y)&& !cV y then match ay R id with
         | .blk ty c=>match setAt 8 c off y with
           |some c'=>some {s:= .und,g:=true,q:=none,new:= [],up:=some (id,.blk ty c')}
           |none=>none
         |_=>none
         else none
        |none=>none
      |_=>none
     |none=>none
    |some _=>none
   |some _=>none
 |_=>none
def uq (C:Ctx) (ops:List Oper) (st:Bool) (D:List S) (R:List aK) (nid:Nat) (o:Oper):Option Dr:=
 match vV C ops D R nid o with
 |some d=>some d
 |none=>if st then zT C D R o else none
def lL (C:Ctx) (ops:List Oper) (ds:List (Option Nat×Nat)) (sl:List S) (res:List aK) (st:Bool) (hid:List (Nat×Nat)) (done:List Dr) (i:Nat) (o:Oper):Option Dr:=
 if H6 (aR ds i) o.guard&&Fj sl.length o.dst then
  uq C ops st (eR (aR ds i) i 0 ds (wy done) sl) (vw ds hid res done i) (res.length+lens done) o
 else none
def nP (C:Ctx) (ops:List Oper) (ds:List (Option Nat×Nat)) (sl:List S) (res:List aK) (st:Bool) (hid:List (Nat×Nat)):Nat->List Oper->List Dr->List Dr×List Oper
 |_,[],done=>(done,[])
 |i,o::l,done=>match lL C ops ds sl res st hid done i o with
  |some d=>nP C ops ds sl res st hid (i+1) l (done++ [d])
  |none=>(done,o::l)
def v9:List Dr->Prop->Prop
 | [],k=>k
 |d::l,k=>match d.s with
  | .gv _ _=>X1 d.g d.q (v9 l k)
  |_=>D0 d.q (v9 l k)
def ky (n:Nat):Nat:=2^n-1
def Be (C:Ctx) (ops:List Oper) (ds:List (Option Nat×Nat)) (sl:List S) (res:List aK) (st:Bool) (hid:List (Nat×Nat)):Nat->List Oper->List Dr->(List Dr->List Oper->Prop)->Prop
 |_,[],done,k=>k done []
 |i,o::l,done,k=>zN (eR (aR ds i) i 0 ds (wy done) sl) fun D=>
  match (if H6 (aR ds i) o.guard&&Fj sl.length o.dst then uq C ops st D (vw ds hid res done i) (res.length+lens done) o else none)with
  |some d=>Be C ops ds sl res st hid (i+1) l (done++ [d]) k
  |none=>k done (o::l)
theorem uE (C:Ctx) (ops:List Oper) (ds:List (Option Nat×Nat)) (sl:List S) (res:List aK) (st:Bool) (hid:List (Nat×Nat)):∀(l:List Oper) (i:Nat) (done:List Dr) (k:List Dr->List Oper->Prop),
  Be C ops ds sl res st hid i l done k=k (nP C ops ds sl res st hid i l done).1 (nP C ops ds sl res st hid i l done).2
 | [],_,_,_=>rfl
 |o::l,i,done,k=>by
  simp only[Be,nP,uK,lL];split
  ·simp_all[uE]
  ·rename_i hd;rfl
def qv (C:Ctx) (H:Handler) (Y:dQ) (ops:List Oper):List Oper->St->(Out->St->Prop)->Prop
 | [],U,K=>mK U.slots fun sl=>K .norm {U with slots:=sl}
 |o::l,U,K=>zg C H Y ops o U (fun σ'=>qv C H Y ops l σ' K) (fun v σ'=>K (.pan v) σ')
def pP (ds:List (Option Nat×Nat)):Nat->List Oper->Bool
 |_,[]=>true
 |i,_::l=>aR ds i==ky i&&pP ds (i+1) l
def WJ (m n:Nat):Option Nat:=(List.range n).find? fun e=> !(Nat.testBit m e)&&(m ||| 2^e)==ky n
def uU (o:Operand) (d:Nat):Bool:=
 match o with
 | .tmp s=> !(s==d)
 |_=>true
def vM (ops:List Oper) (ds:List (Option Nat×Nat)) (n:Nat) (o:Oper) (l:List Oper):Bool:=
 match o.op with
 | .store _ p x=>match o.dst with
   |none=>match o.guard with
    |none=>match WJ (aR ds n) n with
     |some e=>match ops[e]? with
      |some oe=>match oe.op with
       | .extract y _=>match oe.dst with
         |some d=>match oe.guard with
          |none=>uU p d&&uU x d&&uU y d&&pP ds (n+1) l
          |some _=>false
         |none=>false
       |_=>false
      |none=>false
     |none=>false
    |some _=>false
   |some _=>false
 |_=>false
def uW (o:Oper):Option Operand:=
 match o.op with
 | .move x=>some x
 | .assign x=>some x
 | .extract x _=>some x
 |_=>none
def rf (o:Oper):Bool:=
 match o.guard with
 |none=>match o.dst with
  |some _=>(uW o).isSome
  |none=>false
 |some _=>false
def apart (x y:Oper):Bool:=
 match uW x,x.dst,uW y,y.dst with
 |some sx,some dx,some sy,some dy=>uU sy dx&&uU sx dy&& !(dx==dy)
 |_,_,_,_=>false
def yk (ds:List (Option Nat×Nat)) (j:Nat) (x:Oper):Nat->List Oper->Bool
 |_,[]=>true
 |i,y::l=>(Nat.testBit (aR ds i) j||apart x y)&&yk ds j x (i+1) l
def yB (ds:List (Option Nat×Nat)) (n:Nat):Nat->List Oper->Bool
 |_,[]=>true
 |i,x::l=>rf x&&(aR ds i ||| ky (n+1))==aR ds i&&yk ds i x (i+1) l&&yB ds n (i+1) l
def yU (ds:List (Option Nat×Nat)) (n:Nat) (l:List Oper):Bool:=aR ds n==ky n&&yB ds n (n+1) l
def va (res:List aK) (drs:List Dr):List aK:=J3 (fun _=>true) 0 drs (oS res (iU (fun _=>true) 0 drs))
def UX (ops:List Oper) (ds:List (Option Nat×Nat)) (n:Nat):List Oper->Bool
 | []=>true
 |o::l=>pP ds n (o::l)||vM ops ds n o l||yU ds n l
def yd (C:Ctx) (H:Handler) (Y:dQ) (ops:List Oper) (ds:List (Option Nat×Nat)) (U:St) (K:Out->St->Prop) (drs:List Dr) (rest:List Oper):Prop:=
 v9 drs (match rest with
  | []=>zN (eR (ky drs.length) drs.length 0 ds (wy drs) (clean U.slots)) fun sl=>mK sl fun sl=>K .norm {U with slots:=sl,res:=va U.res drs}
  |o::l=>if pP ds drs.length (o::l)||vM ops ds drs.length o l||yU ds drs.length l then
    zN (eR (ky drs.length) drs.length 0 ds (wy drs) (clean U.slots)) fun sl=>qv C H Y ops (o::l) {U with slots:=sl,res:=va U.res drs} K
   else False)
def M8 (C:Ctx) (H:Handler) (Y:dQ) (ops:List Oper) (ds:List (Option Nat×Nat)) (U:St) (K:Out->St->Prop) (alt:Prop):Prop:=
 if Fu ds 0 ops ds&&sX ds then
  mK U.slots fun sl=>Be C ops ds sl U.res false [] 0 ops [] fun drs rest=>
   if UX ops ds drs.length rest then yd C H Y ops ds U K drs rest
   else Be C ops ds sl U.res true [] 0 ops [] fun drs1 _=>Be C ops ds sl U.res true (uC 0 drs1) 0 ops [] fun drs2 rest2=>
    if AS (uC 0 drs2) (uC 0 drs1)&&UX ops ds drs2.length rest2 then yd C H Y ops ds U K drs2 rest2 else alt
 else False
def LW (C:Ctx) (H:Handler) (Y:dQ) (ops:List Oper) (U:St) (K:Out->St->Prop) (alt:Prop):Prop:=M8 C H Y ops (SG ops []) U K alt
theorem m6 {ds:List (Option Nat×Nat)} {k:Nat}:∀{es:List Edge},(jX ds es).testBit k=true↔ ∃e∈es,Region.binds .any e=true/\(e.on=k\/(aR ds e.on).testBit k=true)
 | []=>by simp[jX]
 |e::l=>by
  have ih:=m6 (ds:=ds) (k:=k) (es:=l);simp only[jX,List.mem_cons,exists_eq_or_imp];split
  ·grind
  ·rename_i h;simp[ih,h]
theorem j8 (anc i:Nat):∀(ds:List (Option Nat×Nat)) (j:Nat) (done sl:List S),(eR anc i j ds done sl).length=sl.length
 | [],j,done,sl=>by simp[eR]
 | (none,m)::ds,j,done,sl=>by simp only[eR];exact j8 anc i ds _ _ _
 | (some d,m)::ds,j,s::done,sl=>by simp only[eR];rw[j8 anc i ds _ _ _,ib]
 | (some d,m)::ds,j,[],sl=>by
   simp only[eR];split
   ·exact j8 anc i ds _ _ _
   ·rw[j8 anc i ds _ _ _,ib]
theorem kX (anc i t:Nat):∀(ds:List (Option Nat×Nat)) (j:Nat) (done sl:List S),
  b9 (eR anc i j ds done sl) t= .und\/
  (∃k m s,ds[k]? =some (some t,m)/\done[k]? =some s/\anc.testBit (j+k)=true/\b9 (eR anc i j ds done sl) t=s)\/
  (b9 (eR anc i j ds done sl) t=b9 sl t/\∀k m,ds[k]? =some (some t,m)->done.length<=k/\(j+k=i\/m.testBit i=true))
 | [],j,done,sl=> .inr (.inr ⟨by simp[eR],by simp⟩)
 | (none,m)::ds,j,done,sl=>by
   simp only[eR];rcases kX anc i t ds (j+1) done.tail sl with h|⟨k,m',s,h1,h2,h3,h4⟩|⟨h1,h2⟩
   ·exact .inl h
   ·refine .inr (.inl ⟨k+1,m',s,by simpa using h1,?_,by rw[show j+(k+1)=j+1+k by omega];exact h3,h4⟩)
    cases done<;>first| (simp at h2;done)|simpa using h2
   ·grind
 | (some d,m)::ds,j,s::done,sl=>by
   simp only[eR];rcases kX anc i t ds (j+1) done (sset sl d (if anc.testBit j=true then s else .und))with h|⟨k,m',s',h1,h2,h3,h4⟩|⟨h1,h2⟩
   ·exact .inl h
   ·exact .inr (.inl ⟨k+1,m',s',by simpa using h1,by simpa using h2,by rw[show j+(k+1)=j+1+k by omega];exact h3,h4⟩)
   ·rw[gI]at h1;by_cases e:t=d/\d<sl.length
    ·rw[aa4 e]at h1;obtain⟨rfl,hd⟩:=e;by_cases hb:anc.testBit j=true
     ·rw[aa4 hb]at h1;exact .inr (.inl ⟨0,m,s,by simp,by simp,by simpa using hb,by rw[aa4 hb];exact h1⟩)
     ·simp_all
    ·grind[lh]
 | (some d,m)::ds,j,[],sl=>by
   simp only[eR];split
   ·rename_i hc;rcases kX anc i t ds (j+1) [] sl with h|⟨k,m',s',h1,h2,h3,h4⟩|⟨h1,h2⟩
    ·exact .inl h
    ·simp at h2
    ·grind
   ·rename_i hc;rcases kX anc i t ds (j+1) [] (sset sl d .und)with h|⟨k,m',s',h1,h2,h3,h4⟩|⟨h1,h2⟩
    ·exact .inl h
    ·simp at h2
    ·grind[gI,lh]
theorem y8 {a b:Option Nat} (h:PF a b=true) {t:Nat} (ha:a=some t) (hb:b=some t):False:=by
 subst ha;subst hb;simp[PF]at h
theorem pn:∀{ds:List (Option Nat×Nat)},sX ds=true->∀{j k t m m':Nat},ds[j]? =some (some t,m)->ds[k]? =some (some t,m')->j=k
 | [],_,j,k,t,m,m',h,_=>by simp at h
 |p::l,hd,j,k,t,m,m',hj,hk=>by
  simp only[sX,aaX,List.all_eq_true]at hd;cases j with
  |zero=>
   cases k with
   |zero=>rfl
   |succ k=>
    simp only[List.getElem?_cons_zero,aaV]at hj;have:=hd.1 _ (List.mem_of_getElem? (by simpa using hk))
    exact(y8 this (by rw[hj]) rfl).elim
  |succ j=>
   cases k with
   |zero=>
    simp only[List.getElem?_cons_zero,aaV]at hk;have:=hd.1 _ (List.mem_of_getElem? (by simpa using hj))
    exact(y8 this (by rw[hk]) rfl).elim
   |succ k=>exact congrArg (· +1) (pn hd.2 (t:=t) (m:=m) (m':=m') (by simpa using hj) (by simpa using hk))
theorem uO {anc i t:Nat}:∀{ds:List (Option Nat×Nat)} (_:sX ds=true) {j:Nat} {done sl:List S} {k m:Nat} {s:S},ds[k]? =some (some t,m)->done[k]? =some s->anc.testBit (j+k)=true->
  t<sl.length->b9 (eR anc i j ds done sl) t=s
 | (none,m0)::ds,hd,j,done,sl,k,m,s,h1,h2,h3,ht=>by
   simp only[sX,aaX]at hd;cases k with
   |zero=>simp at h1
   |succ k=>
    simp only[eR];refine uO hd.2 (k:=k) (by simpa using h1) ?_ (by rw[show j+1+k=j+(k+1) by omega];exact h3) ht
    cases done<;>first| (simp at h2;done)|simpa using h2
 | (some d,m0)::ds,hd,j,[],sl,k,m,s,h1,h2,h3,ht=>by simp at h2
 | (some d,m0)::ds,hd,j,x::done,sl,k,m,s,h1,h2,h3,ht=>by
   have hd':=hd;simp only[sX,aaX]at hd;cases k with
   |succ k=>
    simp only[eR];exact uO hd.2 (k:=k) (by simpa using h1) (by simpa using h2) (by rw[show j+1+k=j+(k+1) by omega];exact h3) (by rw[ib];exact ht)
   |zero=>
    simp only[List.getElem?_cons_zero,aaV,aaW]at h1 h2;obtain⟨rfl,rfl⟩:=h1;subst h2;simp only[eR];simp only[Nat.add_zero]at h3
    have hno:∀(k m':Nat),ds[k]? =some (some d,m')->False:=fun k m' hk=>by
     have:=pn hd' (j:=0) (k:=k+1) (t:=d) (m:=m0) (m':=m') (by simp) (by simpa using hk)
     omega
    have key:∀(ds:List (Option Nat×Nat)) (j:Nat) (done sl:List S),(∀(k m':Nat),ds[k]? =some (some d,m')->False)->b9 (eR anc i j ds done sl) d=b9 sl d:=by
     intro ds;induction ds with
     |nil=>intro j done sl _;simp[eR]
     |cons p ds ih=>
      intro j done sl hn;have hn':∀(k m':Nat),ds[k]? =some (some d,m')->False:=fun k m' hk=>hn (k+1) m' (by simpa using hk)
      obtain⟨a,b⟩:=p;cases a with
      |none=>simp only[eR];exact ih _ _ _ hn'
      |some e=>
       have hne:d≠e:=fun he=>hn 0 b (by simp[he])
       have hss:∀(sl:List S) (y:S),b9 (sset sl e y) d=b9 sl d:=fun sl y=>by rw[gI,aa3 fun h=>hne h.1]
       cases done with
       |nil=>
        simp only[eR];split
        ·exact ih _ _ _ hn'
        ·rw[ih _ _ _ hn',hss]
       |cons y done=>simp only[eR];rw[ih _ _ _ hn',hss]
    rw[key _ _ _ _ hno,gI,aa4 ⟨rfl,ht⟩,aa4 h3]
 | [],_,j,done,sl,k,m,s,h1,h2,h3,ht=>by simp at h1
theorem A8 {anc i t:Nat} {ds:List (Option Nat×Nat)} {j:Nat} {done sl:List S} (ht:¬t<sl.length):b9 (eR anc i j ds done sl) t= .und:=by
 simp_all[lh,j8]
def iB:List Dr->Nat->Option (Nat×Nat)
 | [],_=>none
 |d::l,x=>if x<d.new.length then some (0,x)else(iB l (x-d.new.length)).map fun p=>(p.1+1,p.2)
theorem qX:∀l,(Ah l).length=l.length
 | []=>rfl
 |_::l=>by simp[Ah,qX l]
theorem AL:∀(l:List aK) (x:Nat),ay (Ah l) x= .yet
 | [],x=>by simp[Ah,ay]
 |_::l,0=>by simp[Ah,ay]
 |_::l,x+1=>by simp[Ah,ay,AL l x]
theorem p8 (p:Nat->Bool) (j:Nat) (d:Dr) (l:List Dr):iU p j (d::l)=(if p j then d.new else Ah d.new)++iU p (j+1) l:=by
 grind[iU,Ah]
theorem Bu (p:Nat->Bool):∀(l:List Dr) (j x:Nat),ay (iU p j l) x=match iB l x with
  |some (k,y)=>if p (j+k)then(match l[k]? with|some d=>ay d.new y|none=> .yet)else .yet
  |none=> .yet
 | [],j,x=>by simp[iU,iB,ay]
 |d::l,j,x=>by
  rw[p8,cF];have hlen:(if p j=true then d.new else Ah d.new).length=d.new.length:=by split<;>simp[qX]
  rw[hlen];simp only[iB];split
  ·grind[AL]
  ·rw[Bu p l (j+1) (x-d.new.length)];cases hl:iB l (x-d.new.length)with
   |none=>simp
   |some q=>
    obtain⟨k,y⟩:=q;simp only[Option.map_some,List.getElem?_cons_succ];rw[show j+1+k=j+(k+1) by omega]
theorem nb (p:Nat->Bool):∀(l:List Dr) (j:Nat),(iU p j l).length=lens l
 | [],j=>by simp[iU,lens]
 |d::l,j=>by
  rw[p8,List.length_append,nb p l,lens];split<;>simp[qX]
theorem gG:∀(l:List Dr) (x k y:Nat),iB l x=some (k,y)↔(∃d,l[k]? =some d/\y<d.new.length)/\x=lens (l.take k)+y
 | [],x,k,y=>by simp[iB]
 |d::l,x,k,y=>by
  simp only[iB];cases k with
  |zero=>
   simp only[List.getElem?_cons_zero,aaV,exists_eq_left',List.take_zero,lens,Nat.zero_add];split
   ·grind
   ·rename_i hx;constructor
    ·simp_all
    ·intro h;omega
  |succ k=>
   simp only[List.getElem?_cons_succ,List.take_succ_cons,lens];split
   ·grind
   ·rename_i hx;have ih:=gG l (x-d.new.length) k y;constructor
    ·intro h;cases hl:iB l (x-d.new.length)with
     |none=>simp[hl]at h
     |some q=>
      obtain⟨a,b⟩:=q;simp only[hl,Option.map_some,aaV,aaW]at h;have:iB l (x-d.new.length)=some (k,y):=by rw[hl];simp;omega
      obtain⟨g1,g2⟩:=ih.1 this;exact⟨g1,by omega⟩
    ·rintro⟨g1,g2⟩
     rw[ih.2 ⟨g1,by omega⟩];rfl
theorem we {ds:List (Option Nat×Nat)}:∀{ops:List Oper} {i0:Nat} {dd:List (Option Nat×Nat)},Fu ds i0 ops dd=true->ops.length=dd.length/\∀(i:Nat) (o:Oper),ops[i]? =some o->
  ∃m,dd[i]? =some (o.dst,m)/\jX ds o.after.toList=m/\m<2^(i0+i)/\∀j,m.testBit j=true->(aR ds j ||| m)=m
 | [],i0,[],_=>⟨rfl,by simp⟩
 | [],_,_::_,h=>by simp[Fu]at h
 |_::_,_,[],h=>by simp[Fu]at h
 |o::l,i0,d::dd,h=>by
  simp only[Fu,aaX,aaZ,List.all_eq_true,List.mem_range,Bool.or_eq_true,Bool.not_eq_true',Nat.ble_eq]at h;obtain⟨⟨⟨⟨h1,h2⟩,h3⟩,h4⟩,h5⟩:=h;obtain⟨i1,i2⟩:=we h5;refine⟨by simp[i1],fun i p hp=>?_⟩
  cases i with
  |zero=>
   simp only[List.getElem?_cons_zero,aaV]at hp;subst hp;refine⟨d.2,?_,h2,by rw[Nat.add_zero];exact h3,fun j hj=>?_⟩
   ·grind
   ·have hlt:j<i0:=by
     rcases Nat.lt_or_ge j i0 with h|h
     ·exact h
     ·have:=Nat.testBit_lt_two_pow (x:=d.2) (i:=j) (Nat.lt_of_lt_of_le (by omega) (Nat.pow_le_pow_right (by omega) h))
      rw[this]at hj;simp at hj
    rcases h4 j hlt with h|h
    ·rw[h]at hj;simp at hj
    ·exact h
  |succ i=>
   obtain⟨m,a,b,c,e⟩:=i2 i p (by simpa using hp)
   exact⟨m,by simpa using a,b,by rw[show i0+(i+1)=i0+1+i by omega];exact c,e⟩
structure fb (C:Ctx) (ops:List Oper) (ds:List (Option Nat×Nat)) (sl:List S) (res:List aK) (drs:List Dr):Prop where
 okk:Fu ds 0 ops ds=true
 dst:sX ds=true
 cl:∀t,(∃x,b9 sl t= .v x)\/b9 sl t= .und
 plan:∃st hid,(∀i d,drs[i]? =some d->∃o,ops[i]? =some o/\lL C ops ds sl res st hid (drs.take i) i o=some d)/\∀s d u,drs[s]? =some d->d.up=some u->(s,u.1)∈hid
theorem rR {C:Ctx} {D:List S} {R:List aK} {o:Oper} {d:Dr} (h:zT C D R o=some d):∃t p x id off y ty c c',o.op= .store t p x/\o.dst=none/\o.guard=none/\fm D [] p=some (.lp id off)/\fm D [] x=some y/\
  oZ C.P t=some (fg y)/\cV y=false/\ay R id= .blk ty c/\setAt 8 c off y=some c'/\d= {s:= .und,g:=true,q:=none,new:= [],up:=some (id,.blk ty c')}:=by
 unfold zT at h;split at h
 case h_2=>simp at h
 rename_i t p x hop;split at h
 case h_2=>simp at h
 rename_i hd;split at h
 case h_2=>simp at h
 rename_i hg;split at h
 case h_2=>simp at h
 rename_i pv hp;split at h
 case h_2=>simp at h
 rename_i id off;split at h
 case h_2=>simp at h
 rename_i y hy;split at h
 case isFalse=>simp at h
 rename_i hc;simp only[aaX,aaZ,Bool.not_eq_true']at hc;split at h
 case h_2=>simp at h
 rename_i ty c hr;split at h
 case h_2=>simp at h
 rename_i c' hs;simp only[aaV]at h;exact⟨t,p,x,id,off,y,ty,c,c',hop,hd,hg,hp,hy,hc.1,hc.2,hr,hs,h.symm⟩
theorem oT {C:Ctx} {ops:List Oper} {st:Bool} {D:List S} {R:List aK} {nid:Nat} {o:Oper} {d:Dr} (h:uq C ops st D R nid o=some d):vV C ops D R nid o=some d\/zT C D R o=some d:=by
 grind[uq]
theorem v8 {C:Ctx} {ops:List Oper} {D:List S} {R:List aK} {nid:Nat} {o:Oper} {d:Dr} (h:vV C ops D R nid o=some d):d.up=none:=by
 grind[vV]
theorem uw:∀(l:List Dr) (i:Nat),(wy l)[i]? =(l[i]?).map Dr.s
 | [],i=>by simp[wy]
 |d::l,0=>by simp[wy]
 |d::l,i+1=>by simp[wy,uw l i]
theorem GX (l:List Dr):(wy l).length=l.length:=by
 induction l with
 |nil=>rfl
 |cons d l ih=>simp[wy,ih]
theorem B2 {sl sl':List S}:∀{ch:List (Nat×Bool)},(∀p∈ch,b9 sl p.1=b9 sl' p.1)->mQ sl ch=mQ sl' ch
 | [],_=>rfl
 | (s,w)::c,h=>by
   rw[ji,ji,h (s,w) (by simp),B2 fun p hp=>h p (by simp[hp])]
section
variable {C:Ctx} {opsA:Array Oper} {ds:List (Option Nat×Nat)} {sl:List S} {res:List aK} {drs:List Dr}
theorem fb.at (P:fb C opsA.toList ds sl res drs) {i:Nat} {o:Oper} (h:opsA[i]? =some o):
  ds[i]? =some (o.dst,aR ds i)/\(∀k,(aR ds i).testBit k=true->k<i)/\
  (∀k,(aR ds i).testBit k=true↔ ∃e∈o.after,Region.binds .any e=true/\(e.on=k\/(aR ds e.on).testBit k=true))/\
  ∀k r,(aR ds i).testBit k=true->(aR ds k).testBit r=true->(aR ds i).testBit r=true:=by
 obtain⟨m,h1,h2,h3,h4⟩:=(we P.okk).2 i o (by simpa using h)
 have hm:aR ds i=m:=by simp[aR,h1]
 rw[hm];refine⟨h1,fun k hk=>?_,fun k=>?_,fun k r hk hr=>?_⟩
 ·rcases Nat.lt_or_ge k i with h|h
  ·exact h
  ·have:=Nat.testBit_lt_two_pow (x:=m) (i:=k) (Nat.lt_of_lt_of_le h3 (Nat.pow_le_pow_right (by omega) (by omega)))
   rw[this]at hk;simp at hk
 ·rw[<-h2,m6];simp only[Array.mem_toList_iff]
 ·rw[<-h4 k hk,Nat.testBit_or,hr];rfl
def AtW (opsA:Array Oper) (ds:List (Option Nat×Nat)):Prop:=∀i o,opsA[i]? =some o->(∀k,(aR ds i).testBit k=true->k<i)/\
    (∀k,(aR ds i).testBit k=true->∃e∈o.after,Region.binds .any e=true/\(e.on=k\/(aR ds e.on).testBit k=true))/\∀e∈o.after,Region.binds .any e=true->e.on<i
theorem fb.atW (P:fb C opsA.toList ds sl res drs):AtW opsA ds:=fun i o h=>by
 obtain⟨_,p2,p3,_⟩:=P.at h;exact⟨p2,fun k hk=>(p3 k).1 hk,fun e he hb=>p2 _ ((p3 e.on).2 ⟨e,he,hb,.inl rfl⟩)⟩
theorem fb.len (P:fb C opsA.toList ds sl res drs):ds.length=opsA.size:=by
 have:=(we P.okk).1;simpa using this.symm
def Dat (ds:List (Option Nat×Nat)) (sl:List S) (drs:List Dr) (i:Nat):List S:=eR (aR ds i) i 0 ds (wy (drs.take i)) sl
def aag (ds:List (Option Nat×Nat)) (m:Nat) (ch:List (Nat×Bool)):Prop:=∀p∈ch,∃k m',m.testBit k=true/\ds[k]? =some (some p.1,m')
theorem fb.chain (P:fb C opsA.toList ds sl res drs):∀(i:Nat) (d:Dr),drs[i]? =some d->∀ch x,d.s= .gv ch x->d.g=mQ (Dat ds sl drs i) ch/\aag ds (aR ds i) ch:=by
 intro i;induction i using Nat.strongRecOn with
 |_ i ih=>
  intro d hd ch x hs;obtain⟨st,hid,hpl,_⟩:=P.plan;obtain⟨o,ho,hp⟩:=hpl i d hd;obtain⟨p1,p2,p3,p4⟩:=P.at (i:=i) (o:=o) (by simpa using ho)
  unfold lL at hp;split at hp
  ·rename_i hc;simp only[aaX]at hc;rcases oT hp with hp|hp
   case inr=>
    obtain⟨_,_,_,_,_,_,_,_,_,_,_,_,_,_,_,_,_,_,rfl⟩:=rR hp;simp at hs
   unfold vV at hp;split at hp
   case isFalse=>simp at hp
   split at hp
   ·simp at hp
   ·simp only[aaV]at hp;subst hp;simp at hs
   ·rename_i ch' hch;split at hp
    ·rename_i q y new hop;cases ch' with
     |nil=>simp only[aaV]at hp;subst hp;simp at hs
     |cons c0 c1=>
      simp only at hp;split at hp
      ·simp only[aaV]at hp;subst hp;simp only[S.gv.injEq]at hs;obtain⟨rfl,rfl⟩:=hs;refine⟨rfl,?_⟩;unfold sF at hch;split at hch
       ·simp at hch
       ·rename_i j w hg;split at hch
        ·simp at hch
        ·rename_i s hsd;have hjb:(aR ds i).testBit j=true:=by have:=hc.1;rw[hg]at this;exact this
         have hj:∃m',ds[j]? =some (some s,m'):=by
          cases hoj:opsA.toList[j]? with
          |none=>simp[hoj]at hsd
          |some oj=>
           simp only[hoj,Option.bind_some]at hsd;have:=(P.at (i:=j) (o:=oj) (by simpa using hoj)).1
           rw[hsd]at this;exact⟨_,this⟩
         have hsub:∀c y,b9 (eR (aR ds i) i 0 ds (wy (drs.take i)) sl) s= .gv c y->aag ds (aR ds i) c:=by
          intro c y hy;rcases kX (aR ds i) i s ds 0 (wy (drs.take i)) sl with h|⟨k,m',s',h1,h2,h3,h4⟩|⟨h1,h2⟩
          ·rw[h]at hy;simp at hy
          ·rw[h4]at hy;simp only[Nat.zero_add]at h3;have hki:=p2 k h3;rw[uw,List.getElem?_take,aa4 hki]at h2;cases hdk:drs[k]? with
           |none=>simp[hdk]at h2
           |some dk=>
            simp only[hdk,Option.map_some,aaV]at h2;obtain⟨_,g2⟩:=ih k hki dk hdk c y (by rw[h2];exact hy)
            exact fun p hp=>let ⟨r,m'',e1,e2⟩:=g2 p hp;⟨r,m'',p4 k r h3 e1,e2⟩
          ·rw[h1]at hy;rcases P.cl s with⟨z,hz⟩|hz<;>rw[hz]at hy<;>simp at hy
         have hhead:∃(k m':Nat),(aR ds i).testBit k=true/\ds[k]? =some (some s,m'):=let ⟨m',h⟩:=hj;⟨j,m',hjb,h⟩;clear hop;split at hch<;>(try split at hch)<;>simp only[aaV,reduceCtorEq,List.cons.injEq]at hch
         ·obtain⟨rfl,rfl⟩:=hch;intro p hp;simp only[List.mem_singleton]at hp;subst hp;exact hhead
         ·rename_i c b hv;obtain⟨rfl,rfl⟩:=hch;intro p hp;rcases List.mem_cons.1 hp with rfl|hp
          ·exact hhead
          ·exact hsub _ _ hv p hp
         ·simp_all
      ·simp only[aaV]at hp;subst hp;simp at hs
    ·simp at hp
  ·simp at hp
theorem fb.PK (P:fb C opsA.toList ds sl res drs) {k:Nat} {d:Dr} (hd:drs[k]? =some d) {ch:List (Nat×Bool)} {x:V} (hs:d.s= .gv ch x) {anc i:Nat} (hi:k<i)
  (hsub:∀r,(aR ds k).testBit r=true->anc.testBit r=true):mQ (eR anc i 0 ds (wy (drs.take i)) sl) ch=d.g:=by
 obtain⟨h1,h2⟩:=P.chain k d hd ch x hs;rw[h1];obtain⟨st,hid,hpl,_⟩:=P.plan;obtain⟨o,ho,_⟩:=hpl k d hd;obtain⟨p1,p2,p3,p4⟩:=P.at (i:=k) (o:=o) (by simpa using ho)
 have hklt:k<drs.length:=(List.getElem?_eq_some_iff.1 hd).1;refine B2 fun p hp=>?_
 obtain⟨r,m',e1,e2⟩:=h2 p hp;have hr:=p2 r e1;by_cases ht:p.1<sl.length
 ·have hdr:drs[r]? =some (drs[r]'(by omega)):=List.getElem?_eq_getElem (by omega)
  rw[uO P.dst (k:=r) e2 (s:=(drs[r]'(by omega)).s) (by rw[uw,List.getElem?_take,aa4 (by omega),hdr];rfl) (by simpa using hsub r e1) ht]
  unfold Dat;rw[uO P.dst (k:=r) e2 (s:=(drs[r]'(by omega)).s) (by rw[uw,List.getElem?_take,aa4 hr,hdr];rfl) (by simpa using e1) ht]
 ·rw[A8 ht];unfold Dat;rw[A8 ht]
def qW (J:Env) (K:Nat->Prop) (x:Value) (d:Dr):Prop:=
 match d.s with
 | .und=>True
 | .ud=>x=undef
 | .v y=>x=den J y/\ok K y
 | .gv _ y=>(d.g=true->x=den J y/\ok K y)/\(d.g=false->x=undef)
theorem qW.env {J ρ':Env} {K K':Nat->Prop} {x:Value} {d:Dr} (h:qW J K x d) (hK:∀i,K i->K' i) (ha:Env.bE K J ρ'):qW ρ' K' x d:=by
 grind[qW,gh,ec]
def AV (res:List aK) (drs:List Dr) (L:Nat->Bool):List aK:=J3 L 0 drs (res++iU L 0 drs)
def KL (res:List aK) (drs:List Dr) (L:Nat->Bool) (id:Nat):Prop:=known res id\/(res.length<=id/\∃j y,iB drs (id-res.length)=some (j,y)/\L j=true)
structure Inv (ds:List (Option Nat×Nat)) (sl:List S) (res:List aK) (drs:List Dr) (defs:List (Nat×List V×List V)) (ρ0:Env) (w0:World) (F0:Nat->Prop) (L:Nat->Bool) (J:Env) (fps:Nat->Nat->Prop) (a:Act) (w:World):Prop where
 size:a.tmps.size=sl.length
 done:∀t j m d,ds[j]? =some (some t,m)->drs[j]? =some d->L j=true->qW J (KL res drs L) (a.tmps.getD t undef) d
 todo:∀t,(∀j m,ds[j]? =some (some t,m)->L j=false)->g8 J (KL res drs L) [] (a.tmps.getD t undef) (b9 sl t)
 heap:bq J fps (AV res drs L) (KL res drs L) w0 F0 w
 down:∀i k,L i=true->(aR ds i).testBit k=true->L k=true
 defs:a.defers=defs.flatMap (lN J)/\∀d∈defs,fM (known res) d.2.1/\fM (known res) d.2.2
 bE:Env.bE (known res) ρ0 J
 newk:∀j d,drs[j]? =some d->L j=true->∀y,y<d.new.length->ay d.new y≠ .yet
theorem g8.plain {J:Env} {K:Nat->Prop} {sl sl':List S} {x:Value} {s:S} (hs:(∃y,s= .v y)\/s= .und) (h:g8 J K sl x s):g8 J K sl' x s:=by
 rcases hs with⟨y,rfl⟩|rfl
 ·exact h
 ·trivial
theorem fb.view {defs:List (Nat×List V×List V)} {ρ0 J:Env} {w0 w:World} {F0:Nat->Prop} {L:Nat->Bool} {fps:Nat->Nat->Prop} {a:Act} (P:fb C opsA.toList ds sl res drs) (I:Inv ds sl res drs defs ρ0 w0 F0 L J fps a w)
  {anc i:Nat} (h0:i<=drs.length) (h1:∀k,anc.testBit k=true->L k=true/\k<i) (h2:∀k r,anc.testBit k=true->(aR ds k).testBit r=true->anc.testBit r=true)
  (h3:∀k m t,ds[k]? =some (some t,m)->i<=k->(k=i\/m.testBit i=true)->L k=false):jo J (KL res drs L) (eR anc i 0 ds (wy (drs.take i)) sl) a:=by
 refine⟨by rw[j8];exact I.size,fun t=>?_⟩
 rcases kX anc i t ds 0 (wy (drs.take i)) sl with h|⟨k,m',s',e1,e2,e3,e4⟩|⟨e1,e2⟩
 ·rw[h];trivial
 ·simp only[Nat.zero_add]at e3;obtain⟨l1,l2⟩:=h1 k e3;rw[uw,List.getElem?_take,aa4 l2]at e2;cases hdk:drs[k]? with
  |none=>simp[hdk]at e2
  |some dk=>
   simp only[hdk,Option.map_some,aaV]at e2;have hG:=I.done t k m' dk e1 hdk l1;rw[e4,<-e2];unfold qW at hG;cases hds:dk.s with
   |und=>trivial
   |ud=>rw[hds]at hG;exact hG
   |v y=>rw[hds]at hG;exact hG
   |gv c y=>
    rw[hds]at hG;have:=P.PK hdk hds (anc:=anc) (i:=i) l2 (fun r hr=>h2 k r e3 hr)
    exact⟨fun hg=>hG.1 (by rw[<-this];exact hg),fun hg=>hG.2 (by rw[<-this];exact hg)⟩
 ·rw[e1];refine g8.plain (P.cl t) (I.todo t fun j m hj=>?_)
  obtain⟨f1,f2⟩:=e2 j m hj;rw[GX,List.length_take,Nat.min_eq_left h0]at f1;exact h3 j m t hj f1 (by simpa using f2)
end
theorem pI:∀(l:List Dr) (i k y:Nat),(∃d,l[k]? =some d/\y<d.new.length)->k<i->lens (l.take k)+y<lens (l.take i)
 | [],i,k,y,h,_=>by obtain⟨d,h,_⟩:=h;simp at h
 |d::l,0,k,y,_,h=>by omega
 |d::l,i+1,0,y,h,_=>by
  grind[lens]
 |d::l,i+1,k+1,y,h,hk=>by
  have:=pI l i k y (by simpa using h) (by omega)
  simp only[List.take_succ_cons,lens];omega
theorem wU {l:List Dr} {i x k y:Nat} (h:iB (l.take i) x=some (k,y)):k<i/\iB l x=some (k,y):=by
 grind[gG]
theorem js (res:List aK) (drs:List Dr) (p:Nat->Bool) (id:Nat):ay (res++iU p 0 drs) id=if id<res.length then ay res id else
  match iB drs (id-res.length)with
  |some (k,y)=>if p k then(match drs[k]? with|some d=>ay d.new y|none=> .yet)else .yet
  |none=> .yet:=by
 simp_all[cF,Bu,iB]
theorem nY {res:List aK} {drs:List Dr} {p:Nat->Bool} {id:Nat} (h:known (res++iU p 0 drs) id):KL res drs p id:=by
 unfold known at h;rw[js]at h;by_cases hlt:id<res.length
 ·rw[aa4 hlt]at h;exact .inl h
 ·rw[aa3 hlt]at h;refine .inr ⟨by omega,?_⟩
  cases hl:iB drs (id-res.length)with
  |none=>simp[hl]at h
  |some q=>
   obtain⟨k,y⟩:=q;simp only[hl]at h;by_cases hp:p k=true
   ·exact⟨k,y,rfl,hp⟩
   ·rw[aa3 hp]at h;exact absurd rfl h
theorem Fo {res:List aK} {drs:List Dr} {p L:Nat->Bool} {i:Nat} (hp:∀k,p k=true->L k=true) (id:Nat) (h:known (res++iU p 0 (drs.take i)) id):
  ay (res++iU p 0 (drs.take i)) id=ay (res++iU L 0 drs) id:=by
 grind[known,js,iB,wU]
def eg (p:Nat->Bool) (id:Nat):Nat->List Dr->Option aK
 |_,[]=>none
 |j,d::l=>match eg p id (j+1) l with
  |some r=>some r
  |none=>match d.up with
   |some u=>if p j&&u.1==id then some u.2 else none
   |none=>none
theorem lX (p:Nat->Bool):∀(l:List Dr) (j:Nat) (R:List aK),(J3 p j l R).length=R.length
 | [],j,R=>rfl
 |d::l,j,R=>by
  simp only[J3];split
  ·exact lX p l _ R
  ·split
   ·rw[lX p l,cE]
   ·exact lX p l _ R
theorem qc (p:Nat->Bool) (id:Nat):∀(l:List Dr) (j:Nat) (R:List aK),id<R.length->ay (J3 p j l R) id=(eg p id j l).getD (ay R id)
 | [],j,R,h=>rfl
 |d::l,j,R,h=>by
  simp only[J3,eg];cases hu:d.up with
  |none=>
   simp only;rw[qc p id l _ R h];cases eg p id (j+1) l<;>rfl
  |some u=>
   simp only;by_cases hp:p j=true
   ·rw[aa4 hp,qc p id l _ _ (by rw[cE];exact h)]
    cases eg p id (j+1) l with
    |some r=>rfl
    |none=>
     simp only[Option.getD_none,hp,Bool.true_and];by_cases e:u.1=id
     ·subst e;rw[bJ _ _ _ _ h];simp
     ·by_cases hl:u.1<R.length
      ·rw[bJ _ _ _ _ hl,aa3 (Ne.symm e)];simp[e]
      ·rw[kH,List.set_eq_of_length_le (by omega)]
       simp[e]
   ·rw[aa3 hp,qc p id l _ R h];cases eg p id (j+1) l with
    |some r=>rfl
    |none=>simp[hp]
theorem ly {p L:Nat->Bool} {id:Nat}:∀(l:List Dr) (j m:Nat),(∀k d u,l[k]? =some d->d.up=some u->u.1=id->(L (j+k)=true↔k<m/\p (j+k)=true))->eg p id j (l.take m)=eg L id j l
 | [],j,m,h=>by simp[eg]
 |d::l,j,0,h=>by
  have h':=ly (p:=p) (L:=L) (id:=id) l (j+1) 0 fun k d' u h1 h2 h3=>by
   have:=h (k+1) d' u (by simpa using h1) h2 h3
   rw[show j+1+k=j+(k+1) by omega]
   constructor
   ·intro hh;exact absurd (this.1 hh).1 (by omega)
   ·intro hh;exact absurd hh.1 (by omega)
  simp only[List.take_zero,eg]at h'⊢;rw[<-h'];simp only;cases hu:d.up with
  |none=>rfl
  |some u=>
   simp only;rw[aa3];intro hh;simp only[aaX,aaZ]at hh;exact absurd ((h 0 d u (by simp) hu hh.2).1 (by simpa using hh.1)).1 (by omega)
 |d::l,j,m+1,h=>by
  have h':=ly (p:=p) (L:=L) (id:=id) l (j+1) m fun k d' u h1 h2 h3=>by
   have:=h (k+1) d' u (by simpa using h1) h2 h3
   rw[show j+1+k=j+(k+1) by omega]
   constructor
   ·intro hh;exact⟨by have:=(this.1 hh).1;omega,(this.1 hh).2⟩
   ·intro hh;exact this.2 ⟨by omega,hh.2⟩
  simp only[List.take_succ_cons,eg,h'];cases eg L id (j+1) l with
  |some r=>rfl
  |none=>
   simp only;cases hu:d.up with
   |none=>rfl
   |some u=>
    simp only;by_cases e:u.1=id
    ·have:=h 0 d u (by simp) hu e
     simp only[Nat.add_zero]at this
     have hb:p j=L j:=by
      rw[Bool.eq_iff_iff];exact⟨fun hh=>this.2 ⟨by omega,hh⟩,fun hh=>(this.1 hh).2⟩
     rw[hb]
    ·simp[e]
theorem iX {p:Nat->Bool} {id:Nat} {r:aK}:∀(l:List Dr) (j:Nat),eg p id j l=some r->∃k d,l[k]? =some d/\d.up=some (id,r)/\p (j+k)=true
 | [],j,h=>by simp[eg]at h
 |d::l,j,h=>by
  simp only[eg]at h;split at h
  ·rename_i r' hr;simp only[aaV]at h;subst h;obtain⟨k,d',h1,h2,h3⟩:=iX l (j+1) hr;exact⟨k+1,d',by simpa using h1,h2,by rw[show j+(k+1)=j+1+k by omega];exact h3⟩
  ·split at h
   ·rename_i u hu;split at h
    ·rename_i hc;simp only[aaX,aaZ]at hc;simp only[aaV]at h;subst h;exact⟨0,d,by simp,by rw[hu,<-hc.2],by simpa using hc.1⟩
    ·simp at h
   ·simp at h
theorem xh {p:Nat->Bool} {id:Nat} {r:aK}:∀(l:List Dr) (j s:Nat) (d:Dr),l[s]? =some d->d.up=some (id,r)->p (j+s)=true->(∀k d' u,s<k->l[k]? =some d'->d'.up=some u->u.1=id->p (j+k)=false)->eg p id j l=some r
 | [],j,s,d,h,_,_,_=>by simp at h
 |x::l,j,0,d,h,hu,hp,hn=>by
  simp only[List.getElem?_cons_zero,aaV]at h;subst h;simp only[eg]
  have:eg p id (j+1) l=none:=by
   cases hl:eg p id (j+1) l with
   |none=>rfl
   |some r'=>
    obtain⟨k,d',h1,h2,h3⟩:=iX l (j+1) hl;have:=hn (k+1) d' _ (by omega) (by simpa using h1) h2 rfl
    rw[show j+(k+1)=j+1+k by omega,h3]at this
    simp at this
  rw[this,hu];simp only[Nat.add_zero]at hp;simp[hp]
 |x::l,j,s+1,d,h,hu,hp,hn=>by
  simp only[eg]
  rw[xh l (j+1) s d (by simpa using h) hu (by rw[show j+1+s=j+(s+1) by omega];exact hp) fun k d' u h1 h2 h3 h4=>by
   rw[show j+1+k=j+(k+1) by omega]
   exact hn (k+1) d' u (by omega) (by simpa using h2) h3 h4]
theorem pb (ds:List (Option Nat×Nat)) (i:Nat):∀(h:List (Nat×Nat)) (R:List aK) (id:Nat),known (BS ds i h R) id->ay (BS ds i h R) id=ay R id/\known R id/\∀s,(s,id)∈h->s=i\/(aR ds i).testBit s=true\/(aR ds s).testBit i=true
 | [],R,id,hk=>⟨rfl,hk,by simp⟩
 |u::h,R,id,hk=>by
  unfold BS at hk⊢;split at hk
  ·rename_i hc;rw[aa4 hc];obtain⟨a,b,c⟩:=pb ds i h R id hk;refine⟨a,b,fun s hs=>?_⟩
   rcases List.mem_cons.1 hs with rfl|hs
   ·grind
   ·exact c s hs
  ·rename_i hc;rw[aa3 hc];obtain⟨a,b,c⟩:=pb ds i h _ id hk
   have hne:u.2≠id\/¬u.2<R.length:=by
    grind[known,bJ]
   have hr:ay (bO R u.2 .yet) id=ay R id:=by
    rcases hne with e|hl
    ·by_cases hl:u.2<R.length
     ·rw[bJ _ _ _ _ hl,aa3 (Ne.symm e)]
     ·rw[kH,List.set_eq_of_length_le (by omega)]
    ·rw[kH,List.set_eq_of_length_le (by omega)]
   have hkR:known R id:=by unfold known at b⊢;rw[<-hr];exact b
   refine⟨by rw[a,hr],hkR,fun s hs=>?_⟩
   rcases List.mem_cons.1 hs with rfl|hs
   ·exfalso
    rcases hne with e|hl
    ·exact e rfl
    ·exact hl (aO hkR)
   ·exact c s hs
def ins (L:Nat->Bool) (i:Nat) (k:Nat):Bool:=k==i||L k
theorem Kc {res:List aK} {drs:List Dr} {L:Nat->Bool} {i:Nat} {d:Dr} (hd:drs[i]? =some d) (hi:L i=false) (hnew:∀k,k<d.new.length->ay d.new k≠ .yet):
  QN (res++iU L 0 drs) (res++iU (ins L i) 0 drs) (res.length+lens (drs.take i)) d.new/\
  (∀id,KL res drs L id->¬fresh (res.length+lens (drs.take i)) d.new.length id)/\
  (∀id,KL res drs L id\/fresh (res.length+lens (drs.take i)) d.new.length id->KL res drs (ins L i) id):=by
 have hfr:∀id,fresh (res.length+lens (drs.take i)) d.new.length id↔res.length<=id/\∃y,iB drs (id-res.length)=some (i,y):=by
  intro id;constructor
  ·rintro⟨h1,h2⟩
   refine⟨by omega,id-res.length-lens (drs.take i),?_⟩
   rw[gG];exact⟨⟨d,hd,by omega⟩,by omega⟩
  ·rintro⟨h1,y,h2⟩
   rw[gG]at h2;obtain⟨⟨d',h3,h4⟩,h5⟩:=h2;rw[hd]at h3;simp only[aaV]at h3;subst h3;exact⟨by omega,by omega⟩
 have hKf:∀id,KL res drs L id->¬fresh (res.length+lens (drs.take i)) d.new.length id:=by
  rintro id (hk|⟨h1,j,y,h2,h3⟩) hf
  ·have:=aO hk;have:=((hfr id).1 hf).1;omega
  ·simp_all
 refine⟨⟨fun id hk=>⟨?_,hKf id (nY hk)⟩,fun id hk=>?_,fun k hk=>?_⟩,hKf,?_⟩
 ·have h0:=nY hk;rw[js,js];by_cases hlt:id<res.length
  ·rw[aa4 hlt,aa4 hlt]
  ·grind[aO,ins]
 ·rcases nY hk with h0|⟨h1,j,y,h2,h3⟩
  ·left
   unfold known;rw[js,aa4 (aO h0)];exact h0
  ·by_cases e:j=i
   ·subst e;exact .inr ((hfr id).2 ⟨h1,y,h2⟩)
   ·left
    have h3':L j=true:=by simpa[ins,e]using h3
    unfold known at hk⊢;rw[js,aa3 (by omega),h2]at hk⊢
    simp only[h3,h3',if_true]at hk⊢;exact hk
 ·rw[js,aa3 (by omega)]
  have:iB drs (res.length+lens (drs.take i)+k-res.length)=some (i,k):=by
   rw[gG];exact⟨⟨d,hd,hk⟩,by omega⟩
  rw[this];simp only[ins,beq_self_eq_true,Bool.true_or,if_true,hd]
 ·rintro id (h|h)
  ·rcases h with h|⟨h1,j,y,h2,h3⟩
   ·exact .inl h
   ·exact .inr ⟨h1,j,y,h2,by simp[ins,h3]⟩
  ·obtain⟨h1,y,h2⟩:=(hfr id).1 h;exact .inr ⟨h1,i,y,h2,by simp[ins]⟩
section
variable {C:Ctx} {opsA:Array Oper} {ds:List (Option Nat×Nat)} {sl:List S} {res:List aK} {drs:List Dr} {defs:List (Nat×List V×List V)} {ρ0 J:Env} {w0 w:World} {F0:Nat->Prop} {L:Nat->Bool} {fps:Nat->Nat->Prop} {a:Act}
theorem Inv.put (P:fb C opsA.toList ds sl res drs) (I:Inv ds sl res drs defs ρ0 w0 F0 L J fps a w) {i:Nat} {o:Oper} {d:Dr} (ho:opsA[i]? =some o) (hd:drs[i]? =some d) (hdst:Fj sl.length o.dst=true)
  {ρ':Env} {fps':Nat->Nat->Prop} {w':World} {x:Value} (hL:∀k,(aR ds i).testBit k=true->L k=true) (hK:∀id,KL res drs L id->KL res drs (ins L i) id) (hag:Env.bE (KL res drs L) J ρ')
  (hH:bq ρ' fps' (AV res drs (ins L i)) (KL res drs (ins L i)) w0 F0 w') (hx:qW ρ' (KL res drs (ins L i)) x d) (hnew:∀y,y<d.new.length->ay d.new y≠ .yet):
  Inv ds sl res drs defs ρ0 w0 F0 (ins L i) ρ' fps' (a.put o.dst x) w':=by
 have hpi:=(P.at ho).1;have hsz:(a.put o.dst x).tmps.size=a.tmps.size:=by cases o.dst<;>simp[Act.put]
 have hold:∀t,o.dst≠some t->(a.put o.dst x).tmps.getD t undef=a.tmps.getD t undef:=by
  intro t ht;cases hdd:o.dst with
  |none=>simp[Act.put]
  |some e=>
   have:e≠t:=fun h=>ht (by rw[hdd,h])
   simp[Act.put,Array.getD_eq_getD_getElem?,Array.getElem?_setIfInBounds_ne this]
 refine⟨by rw[hsz];exact I.size,?_,?_,hH,?_,?_,?_,?_⟩
 ·intro t j m dj h1 h2 h3;by_cases e:o.dst=some t
  ·rw[e]at hpi;have:=pn P.dst h1 hpi;subst this;rw[hd]at h2;simp only[aaV]at h2;subst h2;rw[e]at hdst;have hlt:t<sl.length:=by simpa[Fj]using hdst
   have:(a.put o.dst x).tmps.getD t undef=x:=by
    rw[e];simp[Act.put,I.size,hlt]
   rw[this];exact hx
  ·rw[hold t e]
   have hji:j≠i:=fun hji=>by
    simp_all
   exact(I.done t j m dj h1 h2 (by simpa[ins,hji]using h3)).env hK hag
 ·intro t hall
  have e:o.dst≠some t:=fun e=>by
   grind[ins]
  rw[hold t e]
  exact(I.todo t fun j m hj=>by
   have:=hall j m hj;simp only[ins,Bool.or_eq_false_iff]at this;exact this.2).env hK hag
 ·intro j k hj hk;simp only[ins,Bool.or_eq_true,aaZ]at hj⊢;rcases hj with rfl|hj
  ·exact .inr (hL k hk)
  ·exact .inr (I.down j k hj hk)
 ·have hag':Env.bE (known res) J ρ':=hag.mono fun id h=> .inl h
  obtain⟨e1,e2⟩:=fI (ρ':=ρ') (K':=known res) I.defs.2 hag' fun _ h=>h
  exact⟨by rw[show(a.put o.dst x).defers=a.defers from put_defers _ _ _,I.defs.1];exact e1.symm,e2⟩
 ·exact I.bE.trans (hag.mono fun id h=> .inl h) fun _ h=>h
 ·intro j dj h1 h2;by_cases e:j=i
  ·simp_all
  ·exact I.newk j dj h1 (by simpa[ins,e]using h2)
theorem xP {p q:Nat->Bool} (h:∀k,p k=true->q k=true) {id:Nat} (hk:KL res drs p id):KL res drs q id:=by
 rcases hk with h1|⟨h1,j,y,h2,h3⟩
 ·exact .inl h1
 ·exact .inr ⟨h1,j,y,h2,h j h3⟩
theorem Ux {p:Nat->Bool} {i id:Nat} (hk:KL res (drs.take i) p id):KL res drs p id:=by
 rcases hk with h1|⟨h1,j,y,h2,h3⟩
 ·exact .inl h1
 ·exact .inr ⟨h1,j,y,(wU h2).2,h3⟩
theorem o0:(AV res drs L).length=res.length+lens drs:=by unfold AV;rw[lX,List.length_append,nb]
theorem pK {id:Nat} (h:id<res.length+lens drs):ay (AV res drs L) id=(eg L id 0 drs).getD (ay (res++iU L 0 drs) id):=by
 unfold AV;rw[qc _ _ _ _ _ (by rw[List.length_append,nb];exact h)]
theorem FP {st:Bool} {hid:List (Nat×Nat)} (hpl:∀i d,drs[i]? =some d->∃o,opsA.toList[i]? =some o/\lL C opsA.toList ds sl res st hid (drs.take i) i o=some d) {s:Nat} {d:Dr} {u:Nat×aK} (hd:drs[s]? =some d) (hu:d.up=some u):
  ∃o,opsA.toList[s]? =some o/\Fj sl.length o.dst=true/\zT C (eR (aR ds s) s 0 ds (wy (drs.take s)) sl) (vw ds hid res (drs.take s) s) o=some d:=by
 obtain⟨o,ho,hp⟩:=hpl s d hd;unfold lL at hp;split at hp
 case isFalse=>simp at hp
 rename_i hc;simp only[aaX]at hc;rcases oT hp with h|h
 ·rw[v8 h]at hu;simp at hu
 ·exact⟨o,ho,hc.2,h⟩
theorem oC (P:fb C opsA.toList ds sl res drs):∀(s:Nat) (d:Dr) (u:Nat×aK),drs[s]? =some d->d.up=some u->KL res drs (fun k=>(aR ds s).testBit k) u.1/\∃ty c,u.2= .blk ty c:=by
 obtain⟨st,hid,hpl,hhid⟩:=P.plan;intro s;induction s using Nat.strongRecOn with
 |_ s ih=>
  intro d u hd hu;obtain⟨o,ho,_,hp⟩:=FP hpl hd hu;obtain⟨p1,p2,p3,p4⟩:=P.at (i:=s) (o:=o) (by simpa using ho)
  obtain⟨t,p,x,id,off,y,ty,c,c',_,_,_,_,_,_,_,hr,_,rfl⟩:=rR hp;simp only[aaV]at hu;subst hu;refine⟨?_,ty,c',rfl⟩;have hk:known (vw ds hid res (drs.take s) s) id:=by unfold known;rw[hr];simp
  obtain⟨_,hk2,_⟩:=pb _ _ _ _ _ hk;have hlen:=aO hk2;rw[lX]at hlen;unfold known at hk2;rw[qc _ _ _ _ _ hlen]at hk2;cases hl:eg (Nat.testBit (aR ds s)) id 0 (drs.take s)with
  |some r=>
   obtain⟨k,d',h1,h2,h3⟩:=iX _ _ hl;rw[List.getElem?_take]at h1;simp only[Nat.zero_add]at h3;have hks:=p2 k h3;rw[aa4 hks]at h1;exact xP (fun q hq=>p4 k q h3 hq) (ih k hks d' _ h1 h2).1
  |none=>
   rw[hl]at hk2;rw[rV]at hk2;exact Ux (nY hk2)
theorem Fm (P:fb C opsA.toList ds sl res drs) (hdown:∀i k,L i=true->(aR ds i).testBit k=true->L k=true) {id:Nat} (hk:known (AV res drs L) id):KL res drs L id:=by
 have hlt:=aO hk;rw[o0]at hlt;unfold known at hk;rw[pK hlt]at hk;cases hl:eg L id 0 drs with
 |some r=>
  obtain⟨k,d',h1,h2,h3⟩:=iX _ _ hl;simp only[Nat.zero_add]at h3;exact xP (fun q hq=>hdown k q h3 hq) (oC P k d' _ h1 h2).1
 |none=>
  rw[hl]at hk;exact nY hk
theorem Bl {hid:List (Nat×Nat)} (P:fb C opsA.toList ds sl res drs) (hhid:∀s d u,drs[s]? =some d->d.up=some u->(s,u.1)∈hid) {i:Nat} (hil:i<=drs.length) (hi:L i=false) (hL:∀k,(aR ds i).testBit k=true->L k=true)
  (hlt:∀k,(aR ds i).testBit k=true->k<i) (hdown:∀i k,L i=true->(aR ds i).testBit k=true->L k=true) {id:Nat} (hk:known (vw ds hid res (drs.take i) i) id):ay (vw ds hid res (drs.take i) i) id=ay (AV res drs L) id:=by
 obtain⟨h1,h2,h3⟩:=pb _ _ _ _ _ hk;have hlen:=aO h2;rw[lX]at hlen;unfold vw;rw[h1,qc _ _ _ _ _ hlen]
 have hlen2:id<res.length+lens drs:=by
  rw[rV,List.length_append,nb]at hlen
  have:lens (drs.take i)<=lens drs:=by
   have:∀(l:List Dr) (n:Nat),lens (l.take n)<=lens l:=by
    intro l;induction l with
    |nil=>intro n;simp[lens]
    |cons d l ih=>
     intro n;cases n with
     |zero=>simp[lens]
     |succ n=>simp only[List.take_succ_cons,lens];have:=ih n;omega
   exact this drs i
  omega
 rw[pK hlen2]
 have hup:eg (Nat.testBit (aR ds i)) id 0 (drs.take i)=eg L id 0 drs:=by
  grind[ly]
 rw[hup];cases hl:eg L id 0 drs with
 |some r=>rfl
 |none=>
  simp only[Option.getD_none];unfold known at h2;rw[qc _ _ _ _ _ hlen,hup,hl]at h2;rw[rV]at h2⊢;exact Fo (fun k hk=>hL k hk) id h2
theorem CQ (P:fb C opsA.toList ds sl res drs) (hdown:∀i k,L i=true->(aR ds i).testBit k=true->L k=true) {i:Nat} {d:Dr} (hd:drs[i]? =some d) (hi:L i=false) (hu:d.up=none) (hnew:∀k,k<d.new.length->ay d.new k≠ .yet):
  QN (AV res drs L) (AV res drs (ins L i)) (res.length+lens (drs.take i)) d.new/\
  (∀id,KL res drs L id->¬fresh (res.length+lens (drs.take i)) d.new.length id)/\
  (∀id,KL res drs L id\/fresh (res.length+lens (drs.take i)) d.new.length id->KL res drs (ins L i) id):=by
 obtain⟨⟨a1,a2,a3⟩,b,c⟩:=Kc (res:=res) hd hi hnew
 have hup:∀id,eg (ins L i) id 0 drs=eg L id 0 drs:=fun id=>by
  have:=ly (p:=ins L i) (L:=L) (id:=id) drs 0 drs.length fun k d' u e1 e2 e3=>by
   grind[ins]
  rwa [List.take_length]at this
 have hnot:∀id,KL res drs L id->∀r,eg L id 0 drs=some r->r≠ .yet:=fun id _ r hr=>by
  obtain⟨k,d',h1,h2,_⟩:=iX _ _ hr;obtain⟨_,ty,c,e⟩:=oC P k d' _ h1 h2;simp only at e;rw[e];simp
 refine⟨⟨fun id hk=>?_,fun id hk=>?_,fun k hk=>?_⟩,b,c⟩
 ·grind[Fm,aO,o0,pK,eg,known]
 ·grind[aO,o0,known,pK,eg]
 ·have h3:=a3 k hk
  have hlt:res.length+lens (drs.take i)+k<res.length+lens drs:=by
   have:=pI drs drs.length i k ⟨d,hd,hk⟩ (List.getElem?_eq_some_iff.1 hd).1;rw[List.take_length]at this;omega
  rw[pK hlt,hup];have hfr:fresh (res.length+lens (drs.take i)) d.new.length (res.length+lens (drs.take i)+k):=⟨by omega,by omega⟩
  cases hl:eg L (res.length+lens (drs.take i)+k) 0 drs with
  |none=>exact h3
  |some r=>
   exfalso
   obtain⟨s,d',h1,h2,h4⟩:=iX _ _ hl;simp only[Nat.zero_add]at h4;exact b _ (xP (fun q hq=>hdown s q h4 hq) (oC P s d' _ h1 h2).1) hfr
theorem P8 (P:fb C opsA.toList ds sl res drs) {hid:List (Nat×Nat)} (hhid:∀s d u,drs[s]? =some d->d.up=some u->(s,u.1)∈hid) (hdown:∀i k,L i=true->(aR ds i).testBit k=true->L k=true) {i:Nat} {d:Dr} {id:Nat} {r:aK} (hd:drs[i]? =some d)
  (hi:L i=false) (hu:d.up=some (id,r)) (hn:d.new= []) (hk:known (vw ds hid res (drs.take i) i) id) (hlt:∀k,(aR ds i).testBit k=true->k<i) (hkn:known (AV res drs L) id):
  (∀x,known (AV res drs (ins L i)) x->ay (AV res drs (ins L i)) x=ay (bO (AV res drs L) id r) x)/\∀x,KL res drs L x↔KL res drs (ins L i) x:=by
 have hKL:∀x,KL res drs L x↔KL res drs (ins L i) x:=fun x=>by
  constructor
  ·exact xP fun k hk=>by simp[ins,hk]
  ·rintro(h|⟨h1,j,y,h2,h3⟩)
   ·exact .inl h
   ·refine .inr ⟨h1,j,y,h2,?_⟩
    have hj:j≠i:=fun e=>by
     simp_all[gG]
    simpa[ins,hj]using h3
 refine⟨fun x hx=>?_,hKL⟩
 have hxl:=aO hx;rw[o0]at hxl;have hidl:=aO hkn
 have hbase:ay (res++iU (ins L i) 0 drs) x=ay (res++iU L 0 drs) x:=by
  grind[js,iB,gG,ins]
 rw[bJ _ _ _ _ hidl,pK hxl];by_cases e:x=id
 ·subst e;rw[aa4 rfl,xh drs 0 i d hd hu (by simp[ins]) fun k d' u h1 h2 h3 h4=>?_]
  ·rfl
  ·simp only[Nat.zero_add,ins,Bool.or_eq_false_iff,beq_eq_false_iff_ne];refine⟨by omega,?_⟩
   cases hLk:L k with
   |false=>rfl
   |true=>
    exfalso
    obtain⟨_,_,h5⟩:=pb _ _ _ _ _ hk;have hm:=hhid k d' u h2 h3;rw[h4]at hm;rcases h5 k hm with rfl|h|h
    ·omega
    ·have:=hlt k h;omega
    ·rw[hdown k i hLk h]at hi;simp at hi
 ·rw[aa3 e,pK hxl,hbase]
  have hup:eg (ins L i) x 0 drs=eg L x 0 drs:=by
   have:=ly (p:=ins L i) (L:=L) (id:=x) drs 0 drs.length fun k d' u e1 e2 e3=>by
    grind[ins]
   rwa [List.take_length]at this
  rw[hup]
theorem Inv.step {ops:Array Oper} {K:Act->World->Prop} {Q:Exit->Act->World->Prop} {ro:Option Nat} (hops:ops=opsA) (hnd:ro≠none->∀o∈opsA.toList,eI o) (hC:C.Sound) (P:fb C opsA.toList ds sl res drs) (hq:∀(i:Nat) (d:Dr),drs[i]? =some d->(d.g=true->dX d.q))
  (I:Inv ds sl res drs defs ρ0 w0 F0 L J fps a w) {i:Nat} {d:Dr} (hd:drs[i]? =some d)
  (hi:L i=false) (hL:∀k,(aR ds i).testBit k=true->L k=true)
  (hn:∀ρ' fps' a' w',Inv ds sl res drs defs ρ0 w0 F0 (ins L i) ρ' fps' a' w'->K a' w'):wpOpIn (FF C.P ro) 0 C.P ops Q i K a w:=by
 subst hops;obtain⟨st,hid,hpl,hhid⟩:=P.plan;obtain⟨o,ho,hp⟩:=hpl i d hd;have ho':ops[i]? =some o:=by simpa using ho
 obtain⟨p1,p2,p3,p4⟩:=P.at ho';have hilt:i<drs.length:=(List.getElem?_eq_some_iff.1 hd).1
 have hview:jo J (KL res drs L) (eR (aR ds i) i 0 ds (wy (drs.take i)) sl) a:=by
  refine P.view I (by omega) (fun k hk=>⟨hL k hk,p2 k hk⟩) p4 fun k m t h1 h2 h3=>?_
  rcases h3 with rfl|h3
  ·exact hi
  ·cases hLk:L k with
   |false=>rfl
   |true=>
    have hm:aR ds k=m:=by simp[aR,h1]
    have:=I.down k i hLk (by rw[hm];exact h3)
    rw[hi]at this;exact absurd this (by simp)
 have hres:bq J fps (vw ds hid res (drs.take i) i) (KL res drs L) w0 F0 w:=I.heap.forget fun id hk=>Bl P hhid (by omega) hi hL p2 I.down hk
 unfold wpOpIn;simp only[ho'];have hdo:ro≠none->eI o:=fun hr=>hnd hr o (by rw[<-Array.getElem?_toList]at ho';exact List.mem_of_getElem? ho')
 unfold lL at hp;split at hp
 ·rename_i hc;simp only[aaX]at hc;rcases oT hp with hp|hp
  case inr=>
   obtain⟨t,px,x,id,off,y,ty,c,c',q1,q2,q3,q4,q5,q6,q7,q8,q9,rfl⟩:=rR hp;rw[aa4 (by simp[Region.wanted,q3])]
   have hkv:known (vw ds hid res (drs.take i) i) id:=by unfold known;rw[q8];simp
   have hav:ay (AV res drs L) id= .blk ty c:=by rw[<-Bl P hhid (by omega) hi hL p2 I.down hkv];exact q8
   have hkn:known (AV res drs L) id:=by unfold known;rw[hav];simp
   obtain⟨e1,e2⟩:=h9 hview rfl q4;obtain⟨e3,e4⟩:=h9 hview rfl q5
   have hst:p6 C.P (AV res drs L) t (.lp id off) y=some (bO (AV res drs L) id (.blk ty c')):=by
    simp_all[p6]
   obtain⟨w',s1,s2,s3⟩:=qQ I.heap hst e2 e4;have hrun:(execOp a.eval o).run C.P w= .ok .skip w':=by simp[execOp,q1,e1,e3,s1]
   refine eT hdo (fun f hf=>by unfold Oper.about at hf;rw[q1]at hf;simp at hf) ?_
   rw[hrun];obtain⟨t1,t2⟩:=P8 P hhid I.down hd hi rfl rfl hkv p2 hkn;have hH:bq J fps (AV res drs (ins L i)) (KL res drs (ins L i)) w0 F0 w':=(s2.vz fun id h=>(t2 id).1 h).forget t1
   exact hn _ _ _ _ (I.put P ho' hd hc.2 hL (fun id h=>(t2 id).1 h) (Env.bE.refl _ _) hH (by simp[qW]) (by simp))
  have hun:=v8 hp;unfold vV at hp
  have hsame:d.new= []->∀x,(∀ρ',ρ'=J->qW ρ' (KL res drs (ins L i)) x d)->Inv ds sl res drs defs ρ0 w0 F0 (ins L i) J fps (a.put o.dst x) w:=by
   intro hnew x hx;obtain⟨a1,a2,a3⟩:=CQ P I.down hd hi hun (by rw[hnew];simp)
   obtain⟨fps',g1,g2⟩:=I.heap.grow (ρ':=J) a1 a2 a3 (by rw[hnew];exact n9.refl _ _ _ _ _ _)
   have hH:bq J fps (AV res drs (ins L i)) (KL res drs (ins L i)) w0 F0 w:=by
    refine(I.heap.vz fun id h=>a3 id (.inl h)).forget fun id hk=>?_
    rcases a1.2.1 id hk with h|h
    ·exact(a1.1 id h).1
    ·unfold fresh at h;rw[hnew]at h;simp at h;omega
   exact I.put P ho' hd hc.2 hL (fun id h=>a3 id (.inl h)) (Env.bE.refl _ _) hH (hx J rfl) (by rw[hnew];simp)
  split at hp
  case isFalse=>simp at hp
  rename_i hab;have hab:=Fx hview hab w;split at hp
  ·simp at hp
  ·rename_i hch;simp only[aaV]at hp;rw[mW hview hch];simp only[xE,Bool.false_eq_true,if_false];refine⟨hab,?_⟩;exact hn _ _ _ _ (hsame (by rw[<-hp]) undef fun ρ' _=>by subst hp;simp[qW])
  ·rename_i ch hch;rw[mW hview hch];rw[show xE (eR (aR ds i) i 0 ds (wy (drs.take i)) sl) (some ch)=mQ (eR (aR ds i) i 0 ds (wy (drs.take i)) sl) ch from rfl];split at hp
   ·rename_i q x new hop
    have hcase:(mQ (eR (aR ds i) i 0 ds (wy (drs.take i)) sl) ch=true/\dX q/\d.s= .v x/\d.new=new)\/∃c0 c1,ch=c0::c1/\new= []/\d= {s:= .gv (c0::c1) x,g:=mQ (eR (aR ds i) i 0 ds (wy (drs.take i)) sl) (c0::c1),q:=q,new:= []}:=by
     cases ch with
     |nil=>
      simp only[aaV]at hp;subst hp;exact .inl ⟨rfl,hq i _ hd rfl,rfl,rfl⟩
     |cons c0 c1=>
      simp only at hp;split at hp<;>simp only[aaV]at hp
      ·rename_i hne;exact .inr ⟨c0,c1,rfl,by simpa using hne,hp.symm⟩
      ·subst hp;obtain⟨h1,h2⟩:=hq i _ hd rfl;exact .inl ⟨h1,h2,rfl,rfl⟩
    rcases hcase with⟨hgo,hq',hds,hdn⟩|⟨c0,c1,rfl,rfl,rfl⟩
    ·obtain rfl:=hdn;rw[aa4 hgo];refine eT hdo hab ?_
     have hnK:∀k,k<d.new.length->¬KL res drs L (res.length+lens (drs.take i)+k):=fun k hk h=>by
      have hfr:fresh (res.length+lens (drs.take i)) d.new.length (res.length+lens (drs.take i)+k):=⟨by omega,by omega⟩
      rcases h with h|⟨h1,j,y,h2,h3⟩
      ·have:=aO h;omega
      ·have h4:iB drs (res.length+lens (drs.take i)+k-res.length)=some (i,k):=by
        rw[gG];exact⟨⟨_,hd,hk⟩,by omega⟩
       rw[h4]at h2;simp only[aaV,aaW]at h2;rw[<-h2.1,hi]at h3;simp at h3
     obtain⟨hy,hnew⟩:=nk hC hop hview hres hgo hq' hnK;refine hy.wp fun v w' ⟨ρ',hg,hv,hx⟩=>?_
     obtain⟨a1,a2,a3⟩:=CQ P I.down hd hi hun hnew;obtain⟨fps',g1,g2⟩:=I.heap.grow a1 a2 a3 hg;exact hn _ _ _ _ (I.put P ho' hd hc.2 hL (fun id h=>a3 id (.inl h)) g2 g1 (by unfold qW;rw[hds];exact⟨hv,ec a3 _ hx⟩) hnew)
    ·by_cases hg:mQ (eR (aR ds i) i 0 ds (wy (drs.take i)) sl) (c0::c1)=true
     ·rw[aa4 hg];refine eT hdo hab ?_;have hq':dX q:=hq i _ hd hg;obtain⟨hy,_⟩:=nk hC hop hview hres hg hq' (fun k hk=>by simp at hk)
      refine hy.wp fun v w' ⟨ρ',hgr,hv,hx⟩=>?_
      obtain⟨a1,a2,a3⟩:=CQ P I.down hd hi hun (by simp)
      obtain⟨fps',g1,g2⟩:=I.heap.grow a1 a2 a3 hgr;refine hn _ _ _ _ (I.put P ho' hd hc.2 hL (fun id h=>a3 id (.inl h)) g2 g1 ⟨fun _=>⟨hv,ec a3 _ hx⟩,fun h=>?_⟩ (by simp))
      simp only at h;rw[hg]at h;simp at h
     ·rw[aa3 hg];refine⟨hab,?_⟩;exact hn _ _ _ _ (hsame rfl undef fun ρ' _=>⟨fun h=>absurd h hg,fun _=>rfl⟩)
   ·simp at hp
 ·simp at hp
end
end Go.Sx
