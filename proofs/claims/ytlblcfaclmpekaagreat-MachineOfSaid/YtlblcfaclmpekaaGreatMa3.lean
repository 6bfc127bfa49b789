import Derived.Test.YtlblcfaclmpekaaGreatMa2
import Derived.TacticsIn
import Derived.OrdersIn
import Derived.RangeFuncLeaves
import Derived.RangeFuncRecord
set_option linter.unusedSimpArgs false
set_option linter.unusedVariables false
namespace Go.Sx
open Go.RowKit (Below)
structure St where
 slots:List S
 res:List aK
 defs:List (Nat×List V×List V)
def Bh:List V->Option Nat
 | [x]=>match x with
   | .yl k=>some k
   |_=>none
 |_=>none
def lO (J:Env) (d:Nat×List V×List V):List Deferred:=
 match Bh d.2.1 with
 |some k=>(List.range (J.sn k)).map fun j=> {target:= .collected (J.ob k j),args:= #[]}
 |none=> [{target:= .fn (.func d.1) (bB J d.2.2).toArray,args:=(bB J d.2.1).toArray}]
theorem Nm {l:List V} {k:Nat} (h:Bh l=some k):l= [.yl k]:=by
 unfold Bh at h;split at h
 ·grind
 ·simp at h
def lD (J:Env) (fps:Nat->Nat->Prop) (U:St) (w0:World) (F0:Nat->Prop) (a:Act) (w:World):Prop:=
 jo J (known U.res) U.slots a/\bq J fps U.res (known U.res) w0 F0 w/\a.defers=U.defs.flatMap (lO J)/\∀d∈U.defs,fM (known U.res) d.2.1/\fM (known U.res) d.2.2
def Good (J:Env) (res:List aK) (ρ':Env) (res':List aK):Prop:=Env.bE (known res) J ρ'/\∀i,known res i->known res' i
theorem Good.refl (J:Env) (res:List aK):Good J res J res:=⟨Env.bE.refl _ _,fun _ h=>h⟩
theorem Good.trans {J ρ' ρ'':Env} {r r' r'':List aK} (h:Good J r ρ' r') (h':Good ρ' r' ρ'' r''):Good J r ρ'' r'':=
 ⟨h.1.trans h'.1 h.2,fun i hi=>h'.2 i (h.2 i hi)⟩
theorem fC {J ρ':Env} {K K':Nat->Prop} {l:List (Nat×List V×List V)} (hl:∀d∈l,fM K d.2.1/\fM K d.2.2) (ha:Env.bE K J ρ') (hK:∀i,K i->K' i):
  l.flatMap (lO ρ')=l.flatMap (lO J)/\∀d∈l,fM K' d.2.1/\fM K' d.2.2:=
 ⟨by
  rw[List.flatMap_def,List.flatMap_def];refine congrArg _ (List.map_congr_left fun d hd=>?_)
  ·
   unfold lO;cases hm:Bh d.2.1 with
   |none=>simp only[fT ha _ (hl d hd).1,fT ha _ (hl d hd).2]
   |some k=>
    have h1:=(hl d hd).1;rw[Nm hm]at h1;simp only[(ha k h1.1).2.2.2.2.1,(ha k h1.1).2.2.2.2.2],fun d hd=>⟨dt hK _ (hl d hd).1,dt hK _ (hl d hd).2⟩⟩
def an (P:Program) (f:Nat) (args:List V) (res:List aK) (K:V->List aK->Prop) (KP:V->List aK->Prop):Prop:=
 ∀J fps w0 F0 w,bq J fps res (known res) w0 F0 w->fM (known res) args->
  CallsIn (FF P none) 0 P f (bB J args).toArray w fun e w'=>∃x ρ' fps' res',bq ρ' fps' res' (known res') w0 F0 w'/\Good J res ρ' res'/\ok (known res') x/\
   ((e= .returned (den ρ' x)/\K x res')\/(e= .panicked [{v:=den ρ' x,recovered:=false}]/\KP x res'))
abbrev Handler:=Nat->List V->List aK->(V->List aK->Prop)->(V->List aK->Prop)->Prop
def Handler.OK (P:Program) (H:Handler):Prop:=∀f args res K KP,H f args res K KP->an P f args res K KP
def oV (res new:List aK):List aK:=
 match new with
 | []=>res
 |r::l=>res++(r::l)
theorem sm (res new:List aK):oV res new=res++new:=by cases new<;>simp[oV]
def Oa (d:Nat):S->Bool
 | .gv ch _=> !named d ch
 |_=>true
def oS (sl:List S) (dst:Option Nat) (s:S):Option (List S):=
 match dst with
 |none=>some sl
 |some d=>if yS d sl&&Oa d s then some (sset sl d s)else none
def Ek:List S->Nat->S->(List S->Prop)->Prop
 | [],_,_,k=>k []
 |_::l,0,y,k=>k (y::l)
 |x::l,n+1,y,k=>Ek l n y fun l'=>k (x::l')
theorem y9:∀(l:List S) (n:Nat) (y:S) (k:List S->Prop),Ek l n y k=k (sset l n y)
 | [],_,_,_=>rfl
 |_::_,0,_,_=>rfl
 |_::l,n+1,y,k=>by simp only[Ek,sset];exact y9 l n y _
def qf (sl:List S) (dst:Option Nat) (s:S) (k:List S->Prop):Prop:=
 match dst with
 |none=>k sl
 |some d=>if yS d sl&&Oa d s then Ek sl d s k else False
theorem lI (sl:List S) (dst:Option Nat) (s:S) (k:List S->Prop):qf sl dst s k=match oS sl dst s with|some l=>k l|none=>False:=by
 unfold qf oS;cases dst with
 |none=>rfl
 |some d=>
  simp only;split
  ·rw[y9]
  ·rfl
def zq:List S->(List S->Prop)->Prop
 | [],k=>k []
 |x::l,k=>match x with
  | .und=>zq l fun l'=>k (.und::l')
  | .ud=>zq l fun l'=>k (.ud::l')
  | .v y=>zq l fun l'=>k (.v y::l')
  | .gv c y=>zq l fun l'=>k (.gv c y::l')
theorem vl:∀(l:List S) (k:List S->Prop),zq l k=k l
 | [],_=>rfl
 |x::l,k=>by cases x<;>simp only[zq]<;>exact vl l _
def mM:List S->(List S->Prop)->Prop
 | [],k=>k []
 |x::l,k=>match x with
  | .v y=>mM l fun l'=>k (.v y::l')
  |_=>mM l fun l'=>k (.und::l')
theorem k8:∀(l:List S) (k:List S->Prop),mM l k=k (clean l)
 | [],_=>rfl
 |x::l,k=>by cases x<;>simp only[mM,clean]<;>exact k8 l _
def ql (P:Program) (res:List aK) (t:Nat) (p y:V):Option (List aK):=
 if oZ P t==some (fi y)&& !cS y then
  match p with
  | .lp id off=>match ay res id with
    | .blk ty c=>(setAt 8 c off y).map fun c'=>bO res id (.blk ty c')
    |_=>none
  | .lx id off esz n i inner=>match ay res id with
    | .blk ty c=>(IE c off esz n i inner y).map fun c'=>bO res id (.blk ty c')
    |_=>none
  |_=>none
 else none
def ptK (v:V) (z j:Nat):Option V:=
 match v with
 | .ks x z' n lo hi=>match x with
   | .lp id off=>if z==z'&&Nat.blt j (hi-lo)then some (.lp id (off+(lo+j)*z))else none
   |_=>none
 | .sc id len _=>if Nat.blt j len then some (.lp id (j*z))else none
 |_=>none
def lnK:V->Option Nat
 | .ks x _ _ lo hi=>if Jp x then some (hi-lo)else none
 | .sc _ len _=>some len
 |_=>none
def ZB (C:Ctx) (res:List aK) (t z:Nat) (v:V):Nat->Nat->Option (List V)
 |_,0=>some []
 |j,m+1=>match ptK v z j with
  |some p=>match Af C res t p with
   |some r=>match r.1 with
    |none=>match ZB C res t z v (j+1) m with
     |some l=>some (r.2::l)
     |none=>none
    |some _=>none
   |none=>none
  |none=>none
def wrE (P:Program) (t z:Nat) (v:V):Nat->List V->List aK->Option (List aK)
 |_,[],res=>some res
 |j,y::l,res=>match ptK v z j with
  |some p=>match ql P res t p y with
   |some res'=>wrE P t z v (j+1) l res'
   |none=>none
  |none=>none
def cpK (C:Ctx) (res:List aK) (ts:List Nat) (xs:List V):Option (V×List aK):=
 match ts,xs with
 | [t,_],[d,s]=>match C.P.underlying t with
   |some (.slice e)=>match oZ C.P e,mb C.P e,lnK d,lnK s with
    |some z,some a,some n,some m=>if a&&bY .i64 ((Nat.min m n:Nat):Int)then match ZB C res e z s 0 (Nat.min m n)with
     |some l=>match wrE C.P e z d 0 l res with
      |some res'=>some (.ci .i64 ((Nat.min m n:Nat):Int),res')
      |none=>none
     |none=>none
     else none
    |_,_,_,_=>none
   |_=>none
 |_,_=>none
def cpA (C:Ctx) (res:List aK) (ts:List Nat) (xs:List V):Option (V×List aK):=
 match cpV C res ts xs with
 |some r=>some r
 |none=>cpK C res ts xs
abbrev dR:=Nat->List V->List aK->(V->List aK->Prop)->(V->List aK->Prop)->Prop
def noY:dR:=fun _ _ _ _ _=>False
theorem X2 {N:Nat->Prop} {g:Nat} {vs caps:List V} (h1:fM N vs) (h2:fM N caps):fM N (To g vs caps):=by
 grind[To,jg]
def Gc (C:Ctx) (H:Handler) (vs:List V) (res:List aK) (K KP:V->List aK->Prop):V->Prop
 | .fn g caps=>iR C.P (FB g)=true/\H (FB g) (To g vs caps) res K KP
 | .ch b g caps y=>(b=true->iR C.P (FB g)=true/\H (FB g) (To g vs caps) res K KP)/\(b=false->Gc C H vs res K KP y)
 |_=>False
theorem w7 {C:Ctx} {H:Handler} {vs:List V} {res:List aK} {K KP:V->List aK->Prop} {J:Env} {N:Nat->Prop}:∀fv,Gc C H vs res K KP fv->ok N fv->
  ∃g caps,den J fv=FA g (bB J caps)/\fM N caps/\iR C.P (FB g)=true/\H (FB g) (To g vs caps) res K KP
 | .fn g caps,h,hk=>⟨g,caps,rfl,hk,h.1,h.2⟩
 | .ch b g caps y,h,hk=>by
   cases b
   ·obtain⟨g',caps',e⟩:=w7 (J:=J) y (h.2 rfl) hk.2.1;exact⟨g',caps',e⟩
   ·exact⟨g,caps,rfl,hk.1,(h.1 rfl).1,(h.1 rfl).2⟩
 | .cb _,h,_| .bo _,h,_| .ci _ _,h,_| .it _ _,h,_| .bt _,h,_| .st _,h,_| .nl _,h,_| .lp _ _,h,_| .lx _ _ _ _ _ _,h,_| .sc _ _ _,h,_| .so _ _,h,_| .ap _ _ _ _,h,_| .sa _,h,_| .op _ _,h,_| .yl _,h,_| .ic _ _,h,_| .ag _,h,_| .tp _,h,_
 | .key _,h,_| .sl _,h,_| .by _,h,_| .ob _,h,_| .mp _,h,_| .ax _ _ _ _ _ _ _ _,h,_| .bs _ _ _,h,_| .ks _ _ _ _ _,h,_=>h.elim
def SU (C:Ctx) (H:Handler) (Y:dR) (U:St) (ch:List (Nat×Bool)) (o:Oper) (K:St->Prop) (KP:V->St->Prop):Prop:=
 match o.op with
 | .store t p x=>match fo U.slots ch p,fo U.slots ch x,o.dst with
   |some pv,some xv,none=>match ql C.P U.res t pv xv with
    |some res'=>K {U with res:=res'}
    |none=>match GP C.P U.res t pv xv with
     |some (q,res')=>DB q (K {U with res:=res'})
     |none=>False
   |_,_,_=>False
 | .insert t m k x=>match fo U.slots ch m,fo U.slots ch k,fo U.slots ch x,o.dst with
   |some mv,some kv,some xv,none=>match TD C.P U.res t mv kv xv with
    |some res'=>K {U with res:=res'}
    |none=>match TE C.P U.res t mv kv xv with
     |some res'=>K {U with res:=res'}
     |none=>False
   |_,_,_,_=>False
 | .panic x=>match fo U.slots ch x with
   |some (.ic t y)=>KP (.ic t y) {U with slots:=clean U.slots}
   |_=>False
 | .call c=>match c.callee with
   | .value f=>match fo U.slots ch f,mQ U.slots ch c.args.toList with
     |some (.fn g caps),some vs=>iR C.P (FB g)=true/\H (FB g) (To g vs caps) U.res
      (fun x res'=>qf U.slots o.dst (.v x) fun sl=>K {U with slots:=sl,res:=res'})
      (fun x res'=>KP x {U with slots:=clean U.slots,res:=res'})
     |some (.ch b g caps y),some vs=>Gc C H vs U.res
      (fun x res'=>qf U.slots o.dst (.v x) fun sl=>K {U with slots:=sl,res:=res'})
      (fun x res'=>KP x {U with slots:=clean U.slots,res:=res'}) (.ch b g caps y)
     |some (.yl k),some vs=>Y k vs U.res
      (fun x res'=>qf U.slots o.dst (.v x) fun sl=>K {U with slots:=sl,res:=res'})
      (fun x res'=>KP x {U with slots:=clean U.slots,res:=res'})
     |_,_=>False
   | .builtin .append=>match c.argTypes.toList,mQ U.slots ch c.args.toList with
     | [t,t'],some [x,y]=>if t==t' then match WV C U.res t x y with
       |some (q,v,res')=>DB q (qf U.slots o.dst (.v v) fun sl=>K {U with slots:=sl,res:=res'})
       |none=>False
       else False
     |_,_=>False
   | .builtin .copy=>match mQ U.slots ch c.args.toList with
     |some vs=>match cpA C U.res c.argTypes.toList vs with
      |some (v,res')=>qf U.slots o.dst (.v v) fun sl=>K {U with slots:=sl,res:=res'}
      |none=>False
     |none=>False
   | .builtin .clear=>match mQ U.slots ch c.args.toList with
     |some vs=>match VE C U.res c.argTypes.toList vs with
      |some res'=>qf U.slots o.dst (.v (.tp [])) fun sl=>K {U with slots:=sl,res:=res'}
      |none=>False
     |none=>False
   |_=>False
 | .defer c=>match c.callee,o.dst with
   | .value f,none=>match fo U.slots ch f,mQ U.slots ch c.args.toList with
     |some (.fn g caps),some vs=>match Bh vs with
      |none=>if Nat.blt g 2000 then K {U with defs:=(g,vs,caps)::U.defs}else False
      |some _=>False
     |_,_=>False
   |_,_=>False
 |_=>False
def xG:List (Nat×Bool)->Nat->Option Bool
 | [],_=>none
 | (s,w)::c,i=>if s==i then some w else xG c i
def Dl (ch:List (Nat×Bool)) (i:Nat) (s:S):S:=
 match s with
 | .v y=>match y with
   | .bo b=>match xG ch i with
     |some w=> .v (.cb w)
     |none=> .v (.bo b)
   |y=> .v y
 | .gv c y=>if Ia c ch then match y with
   | .bo b=>match xG ch i with
     |some w=> .v (.cb w)
     |none=> .v (.bo b)
   |y=> .v y
   else .gv c y
 |s=>s
def Ix (ch:List (Nat×Bool)):Nat->List S->List S
 |_,[]=> []
 |i,s::l=>Dl ch i s::Ix ch (i+1) l
def fixF (t:Nat) (w:Bool) (i:Nat) (s:S):S:=
 match s with
 | .v y=>match y with
   | .bo b=>if i==t then .v (.cb (!w))else .v (.bo b)
   |y=> .v y
 | .gv c _=>if Ha c t w then .ud else .und
 |s=>s
def Ed (t:Nat) (w:Bool):Nat->List S->List S
 |_,[]=> []
 |i,s::l=>fixF t w i s::Ed t w (i+1) l
def ZW (ch:List (Nat×Bool)) (l:List S):List S:=
 match ch with
 | [(t,w)]=>match b9 l t with
   | .v (.bo _)=>Ed t w 0 l
   |_=>l
 |_=>l
def zY (C:Ctx) (H:Handler) (Y:dR) (ops:List Oper) (o:Oper) (U:St) (K:St->Prop) (KP:V->St->Prop):Prop:=
 if abB C.P U.slots o then match sr U.slots ops o.guard with
 |none=>False
 |some none=>qf U.slots o.dst .ud fun sl=>K {U with slots:=sl}
 |some (some ch)=>match CN C U.slots U.res U.res.length ch o.op with
  |some (q,x,new)=>
   if ch.isEmpty then
    qf U.slots o.dst (.v x) fun sl=>DB q (K {U with slots:=sl,res:=oV U.res new})
   else if new.isEmpty then
    qf U.slots o.dst (.gv ch x) fun sl=>VA (mU U.slots ch) q (K {U with slots:=sl})
   else(mU U.slots ch=true->qf U.slots o.dst (.v x) fun sl=>DB q (K {U with slots:=sl,res:=oV U.res new}))/\(mU U.slots ch=false->qf U.slots o.dst .ud fun sl=>K {U with slots:=sl})
  |none=>if ch.isEmpty then SU C H Y U ch o K KP else(mU U.slots ch=true->zq (Ix ch 0 U.slots) fun sl=>SU C H Y {U with slots:=sl} [] o K KP)/\(mU U.slots ch=false->zq (ZW ch U.slots) fun sl=>qf sl o.dst .ud fun sl=>K {U with slots:=sl})
 else False
section
variable {C:Ctx} {J:Env} {fps:Nat->Nat->Prop} {w0 w:World} {F0:Nat->Prop} {a:Act}
theorem jo.oS {K:Nat->Prop} {sl sl':List S} {dst:Option Nat} {s:S} {x:Value} (h:jo J K sl a) (hp:oS sl dst s=some sl')
  (hs:∀d,dst=some d->yS d sl=true->(∀ch y,s= .gv ch y->named d ch=false)->g8 J K (sset sl d s) x s):jo J K sl' (a.put dst x):=by
 unfold Sx.oS at hp;cases dst with
 |none=>simp only[aa0]at hp;subst hp;exact h
 |some d=>
  simp only at hp;split at hp
  ·rename_i hc;simp only[aa0]at hp;simp only[aa2]at hc;subst hp;refine h.put hc.1 (hs d rfl hc.1 fun ch y e=>?_)
   subst e;simpa[Oa]using hc.2
  ·simp at hp
theorem put_defers (a:Act) (dst:Option Nat) (v:Value):(a.put dst v).defers=a.defers:=by cases dst<;>rfl
theorem iS (w:World) (g:Nat) (cs cs':Array Value) (t:Nat) (h:w.heap[g]? =some (.cells cs t (0,0))):(w.setRow g cs').heap[g]? =some (.cells cs' t (0,0)):=by
 exact setRow_heap w g cs cs' t (0,0) h
theorem zs {P:Program} {res res':List aK} {K:Nat->Prop} {t:Nat} {p y:V} (h:bq J fps res K w0 F0 w) (hs:ql P res t p y=some res') (hp:ok K p) (hy:ok K y):
  ∃b off ty cs cs',den J p= .pointer (some ⟨b,off,none⟩)/\w.heap[b]? =some (.cells cs ty (0,0))/\(∀w1:World,w1.heap[b]? =some (.cells cs ty (0,0))->(Instr.storeAt t (den J p) (den J y)).run P w1= .ok () (w1.setRow b cs'))/\bq J fps res' K w0 F0 (w.setRow b cs')/\∀i,known res' i↔known res i:=by
 unfold ql at hs;split at hs
 ·rename_i hc;simp only[aa2,aa4,Bool.not_eq_true']at hc;obtain⟨hsz,hty⟩:=hc
  have fin:∀id ty c c' off,ay res id= .blk ty c->HQ K J c c' off y->den J p= .pointer (some ⟨J.num id,off,none⟩)->
    ∃b off ty' cs cs',den J p= .pointer (some ⟨b,off,none⟩)/\w.heap[b]? =some (.cells cs ty' (0,0))/\(∀w1:World,w1.heap[b]? =some (.cells cs ty' (0,0))->(Instr.storeAt t (den J p) (den J y)).run P w1= .ok () (w1.setRow b cs'))/\bq J fps (bO res id (.blk ty c')) K w0 F0 (w.setRow b cs')/\∀i,known (bO res id (.blk ty c')) i↔known res i:=by
   intro id ty c c' off hr hput hdp;have hk:known res id:=by unfold known;rw[hr];simp
   have hh:=h.holds id hk;rw[hr]at hh;obtain⟨h1,h2,h3,h4⟩:=hh;refine⟨J.num id,off,ty,(cells J c).toArray,(cells J c').toArray,hdp,h4,fun w1 hw1=>?_,h.write hr hput.2.2.1 hput.2.2.2 rfl rfl rfl (by simp[World.setRow]) (iS w _ _ _ _ h4) fun b hb=>setRow_other w _ _ b hb,fun i=>?_⟩
   ·have hst:=zP (P:=P) (t:=t) w1 hy hty hsz hw1 hput;rw[hdp];simp only[Instr.storeAt,Instr.sureAddr,Sem.run_bind,Sem.run_pure,Result.andThen_ok];exact hst
   ·grind[known,bK,aO]
  split at hs
  ·rename_i id off;split at hs
   ·rename_i ty c hr;cases hset:setAt 8 c off y with
    |none=>simp[hset]at hs
    |some c'=>
     simp only[hset,Option.map_some,aa0]at hs;subst hs;have hh:=h.holds id (by unfold known;rw[hr];simp)
     rw[hr]at hh;exact fin id ty c c' off hr (iy J y hy hty 8 c off c' hh.1 hh.2.1 hset) rfl
   ·simp at hs
  ·rename_i id off esz n i inner;split at hs
   ·rename_i ty c hr;cases hset:IE c off esz n i inner y with
    |none=>simp[hset]at hs
    |some c'=>
     simp only[hset,Option.map_some,aa0]at hs;subst hs;have hh:=h.holds id (by unfold known;rw[hr];simp)
     rw[hr]at hh;exact fin id ty c c' _ hr (GL J hh.1 hh.2.1 hp.2 hy hty hset) rfl
   ·simp at hs
  ·simp at hs
 ·simp at hs
theorem rm {P:Program} {res res':List aK} {K:Nat->Prop} {t:Nat} {p y:V} (h:bq J fps res K w0 F0 w) (hs:ql P res t p y=some res') (hp:ok K p) (hy:ok K y):
  ∃w',(Instr.storeAt t (den J p) (den J y)).run P w= .ok () w'/\bq J fps res' K w0 F0 w'/\∀i,known res' i↔known res i:=by
 obtain⟨b,off,ty,cs,cs',h1,h2,h3,h4,h5⟩:=zs h hs hp hy;exact⟨_,h3 w h2,h4,h5⟩
theorem HB {J:Env} {v:V} {n:Nat} (h:lnK v=some n):∃a cap,den J v= .slice (some a) n cap:=by
 unfold lnK at h;split at h
 ·split at h<;>simp only[aa0,reduceCtorEq]at h
  rename_i hx;subst h;obtain⟨b,o,hd⟩:=uv (J:=J) hx;simp only[den,xc,hd];exact⟨_,_,rfl⟩
 ·simp only[aa0]at h;subst h;exact⟨_,_,rfl⟩
 ·simp at h
theorem HD {J:Env} {K:Nat->Prop} {v p:V} {z j n cap:Nat} {a:Addr} (h:ptK v z j=some p) (hk:ok K v) (hd:den J v= .slice (some a) n cap):a.spot=none/\den J p= .pointer (some (a.add (j*z)))/\ok K p:=by
 unfold ptK at h;split at h
 ·rename_i x z' n' lo hi;split at h
  case h_2=>simp at h
  rename_i id off;split at h<;>simp only[aa0,reduceCtorEq]at h
  rename_i hc;simp only[aa2,aa4,Nat.blt_eq]at hc;obtain⟨rfl,hj⟩:=hc;subst h;obtain⟨hk1,hk2,hk3⟩:=hk;simp only[den,xc]at hd⊢;rw[aa8 (by omega),add_lit]at hd
  simp only[Value.slice.injEq,aa0]at hd;obtain⟨rfl,h2,h3⟩:=hd;rw[add_lit];exact⟨rfl,by simp only[Nat.add_mul,Nat.add_assoc],hk1⟩
 ·split at h<;>simp only[aa0,reduceCtorEq]at h
  subst h;simp only[den,Value.slice.injEq,aa0]at hd;obtain⟨rfl,h2,h3⟩:=hd;refine⟨rfl,?_,hk⟩;simp only[den];rw[add_lit,Nat.zero_add]
 ·simp at h
theorem add_add {a:Addr} (h:a.spot=none) (i j:Nat):(a.add i).add j=a.add (i+j):=by
 obtain⟨b,o,s⟩:=a;simp only at h;subst h;rw[add_lit,add_lit,add_lit,Nat.add_assoc]
theorem Bw {a:Addr} (h:a.spot=none) (k:Nat):∀(n i:Nat) (acc:Array Value),loadCellsFrom (a.add k) i n acc=loadCellsFrom a (k+i) n acc
 |0,i,acc=>rfl
 |n+1,i,acc=>by
  simp only[loadCellsFrom,add_add h];congr 1
  funext v
  exact Bw h k n (i+1) (acc.push v)
theorem Iz {P:Program} {a:Addr} {w:World}:∀(n i:Nat) (acc ys:Array Value) (w':World),(loadCellsFrom a i n acc).run P w= .ok ys w'->w'=w/\∃xs,ys=acc++xs/\∀acc',(loadCellsFrom a i n acc').run P w= .ok (acc'++xs) w
 |0,i,acc,ys,w',h=>by
  simp only[loadCellsFrom,Sem.run_pure,Result.ok.injEq]at h;obtain⟨rfl,rfl⟩:=h;exact⟨rfl, #[],by simp,fun acc'=>by simp[loadCellsFrom]⟩
 |n+1,i,acc,ys,w',h=>by
  simp only[loadCellsFrom,Sem.run_bind]at h;cases hv:(load (a.add i)).run P w with
  |halt x w1=>rw[hv]at h;simp[Result.andThen]at h
  |ok v w1=>
   have hw:w1=w:=by
    rw[run_load]at hv;split at hv
    ·simp only[Result.ok.injEq]at hv;exact hv.2.symm
    ·grind
   subst hw;rw[hv]at h;simp only[Result.andThen_ok]at h;obtain⟨rfl,xs,rfl,h3⟩:=Iz n (i+1) _ _ _ h;refine⟨rfl, #[v]++xs,by apply Array.ext';simp,fun acc'=>?_⟩
   simp only[loadCellsFrom,Sem.run_bind,hv,Result.andThen_ok,h3];congr 1
   apply Array.ext'
   simp
theorem HI {P:Program} {a:Addr}:∀(p q i:Nat) (acc:Array Value) (w:World),(loadCellsFrom a i (p+q) acc).run P w=((loadCellsFrom a i p acc).run P w).andThen fun acc' w'=>(loadCellsFrom a (i+p) q acc').run P w'
 |0,q,i,acc,w=>by simp[loadCellsFrom]
 |p+1,q,i,acc,w=>by
  rw[show p+1+q=(p+q)+1 by omega]
  simp only[loadCellsFrom,Sem.run_bind];cases hv:(load (a.add i)).run P w with
  |halt x w1=>simp[Result.andThen]
  |ok v w1=>
   simp only[Result.andThen_ok];rw[HI p q (i+1),show i+1+p=i+(p+1) by omega]
theorem Ep {C:Ctx} {res:List aK} {K:Nat->Prop} {t z:Nat} {v:V} {a:Addr} {len cap:Nat} (h:bq J fps res K w0 F0 w) (ht:mb C.P t=some true) (hz:oZ C.P t=some z) (hk:ok K v) (hd:den J v= .slice (some a) len cap):
  ∀(m j:Nat) (l:List V),ZB C res t z v j m=some l->(∀acc,(loadCellsFrom a (j*z) (m*z) acc).run C.P w= .ok (acc++(bp J l).toArray) w)/\fM K l/\tg l
 |0,j,l,hl=>by
  simp only[ZB,aa0]at hl;subst hl;exact⟨fun acc=>by simp[loadCellsFrom,bp],trivial,trivial⟩
 |m+1,j,l,hl=>by
  simp only[ZB]at hl;split at hl
  case h_2=>simp at hl
  rename_i p hp;split at hl
  case h_2=>simp at hl
  rename_i r hr;split at hl
  case h_2=>simp at hl
  rename_i hq;split at hl<;>simp only[aa0,reduceCtorEq]at hl
  rename_i l' hl';subst hl;obtain⟨y1,y2⟩:=r;simp only at hq hr;subst hq;obtain⟨p1,p2,p3⟩:=HD hp hk hd;obtain⟨e1,e2,e3⟩:=ug h hr trivial p3;obtain⟨i1,i2,i3⟩:=Ep h ht hz hk hd m (j+1) l' hl';rw[p2]at e1;simp only[Instr.loadAt,Instr.sureAddr,Sem.run_bind,Sem.run_pure,Result.andThen_ok,loadVar,sj w ht,if_true,gF w hz]at e1;have hag:(den J y2).cells=(cells J y2).toArray:=by simp[cells]
  cases hc:(loadCells (a.add (j*z)) z).run C.P w with
  |halt x w1=>rw[hc]at e1;simp[Result.andThen]at e1
  |ok cs w1=>
   rw[hc]at e1;simp only[Result.andThen_ok,Sem.run_pure,Result.ok.injEq]at e1;obtain⟨e1,rfl⟩:=e1
   have hcs:cs=(cells J y2).toArray:=by
    rw[<-hag,<-e1];rfl
   unfold loadCells at hc;rw[Bw p1]at hc;obtain⟨_,xs,hx,hrun⟩:=Iz _ _ _ _ _ hc;simp only[Nat.add_zero]at hrun;have hxs:xs=(cells J y2).toArray:=by rw[<-hcs,hx];simp
   subst hxs;refine⟨fun acc=>?_,⟨e2,i2⟩,?_,i3⟩
   ·rw[Nat.add_mul,Nat.one_mul,Nat.add_comm,HI,hrun,Result.andThen_ok];rw[show j*z+z=(j+1)*z by rw[Nat.add_mul,Nat.one_mul],i1]
    simp only[bp];congr 1
    apply Array.ext'
    simp[cells]
   ·cases y2<;>first|trivial| (simp[cS]at e3)
theorem Ij {P:Program} {a:Addr}:∀(xs ys:List Value) (i:Nat) (w:World),(storeCells a (xs++ys) i).run P w=((storeCells a xs i).run P w).andThen fun _ w'=>(storeCells a ys (i+xs.length)).run P w'
 | [],ys,i,w=>by simp[storeCells]
 |x::xs,ys,i,w=>by
  simp only[List.cons_append,storeCells,Sem.run_bind];cases hv:(store (a.add i) x).run P w with
  |halt y w1=>simp[Result.andThen]
  |ok u w1=>
   simp only[Result.andThen_ok];rw[Ij xs ys (i+1),show i+1+xs.length=i+(xs.length+1) by omega]
   rfl
theorem AR {a:Addr} (h:a.spot=none) (k:Nat):∀(xs:List Value) (i:Nat),storeCells (a.add k) xs i=storeCells a xs (k+i)
 | [],i=>rfl
 |x::xs,i=>by
  simp only[storeCells,add_add h,AR h k xs (i+1)];rfl
theorem D5 {P:Program} {K:Nat->Prop} {t z:Nat} {v:V} {a:Addr} {len cap:Nat} (hz:oZ P t=some z) (hk:ok K v) (hd:den J v= .slice (some a) len cap):
  ∀(l:List V) (j:Nat) (res res':List aK) (w:World),bq J fps res K w0 F0 w->wrE P t z v j l res=some res'->fM K l->∃w',(storeCells a (bp J l) (j*z)).run P w= .ok () w'/\bq J fps res' K w0 F0 w'/\∀i,known res' i↔known res i
 | [],j,res,res',w,h,hl,_=>by
   simp only[wrE,aa0]at hl;subst hl;exact⟨w,by simp[bp,storeCells],h,fun _=>Iff.rfl⟩
 |y::l,j,res,res',w,h,hl,ho=>by
  simp only[wrE]at hl;split at hl
  case h_2=>simp at hl
  rename_i p hp;split at hl
  case h_2=>simp at hl
  rename_i res1 hr;obtain⟨p1,p2,p3⟩:=HD hp hk hd;obtain⟨w1,e1,e2,e3⟩:=rm h hr p3 ho.1;obtain⟨w2,i1,i2,i3⟩:=D5 hz hk hd l (j+1) res1 res' w1 e2 hl ho.2;have hlen:=bg J y ho.1
  have hy:fi y=z:=by
   simp_all[ql]
  rw[hy]at hlen;have hsz:(den J y).cells.size=z:=by rw[<-hlen];simp[cells]
  rw[p2]at e1;simp only[Instr.storeAt,Instr.sureAddr,Sem.run_bind,Sem.run_pure,Result.andThen_ok,storeVar,gF w hz,hsz,ne_eq,not_true_eq_false,if_false,Sem.run_ite]at e1;refine⟨w2,?_,i2,fun i=>(i3 i).trans (e3 i)⟩
  rw[AR p1,Nat.add_zero]at e1;simp only[bp];rw[Ij,show(den J y).cells.toList.length=z from hlen];rw[show(storeCells a (den J y).cells.toList (j*z)).run P w= .ok () w1 from e1,Result.andThen_ok];rw[show j*z+z=(j+1)*z by rw[Nat.add_mul,Nat.one_mul]]
  exact i1
theorem Mi {C:Ctx} {res:List aK} {K:Nat->Prop} {ts:List Nat} {xs:List V} {ty:Nat} {r:V} {res':List aK} (h:bq J fps res K w0 F0 w) (hl:cpA C res ts xs=some (r,res')) (hx:fM K xs):
  ∃w',(Builtin.copy_ ts.toArray ty (bB J xs).toArray).run C.P w= .ok (den J r) w'/\bq J fps res' K w0 F0 w'/\(∀i,known res' i↔known res i)/\ok K r:=by
 unfold cpA at hl;split at hl
 ·simp_all[Mn]
 ·unfold cpK at hl;split at hl
  case h_2=>simp at hl
  rename_i t t' d s;split at hl
  case h_2=>simp at hl
  rename_i e ht;split at hl
  case h_2=>simp at hl
  rename_i z a n m hz hag hn hm;split at hl
  case isFalse=>simp at hl
  rename_i hc;simp only[aa2,aa3]at hc;obtain⟨rfl,hin⟩:=hc;split at hl
  case h_2=>simp at hl
  rename_i l hr;split at hl<;>simp only[aa0,aa1,reduceCtorEq]at hl
  rename_i res1 hw;obtain⟨rfl,rfl⟩:=hl;obtain⟨hxd,hxs,_⟩:=hx;obtain⟨ad,cd,hd⟩:=HB (J:=J) hn;obtain⟨as,cs,hs⟩:=HB (J:=J) hm;obtain⟨r1,r2,r3⟩:=Ep h hag hz hxs hs _ _ _ hr;obtain⟨w',e1,e2,e3⟩:=D5 hz hxd hd l 0 res res1 w h hw r2;refine⟨w',?_,e2,e3,hin⟩;have r1:=r1 #[];simp only[Nat.zero_mul,Array.empty_append]at r1 e1;simp only[bB,hd,hs,Builtin.copy_,List.size_toArray,List.getElem?_toArray]
  simp only[List.getElem?_cons_zero,List.getElem?_cons_succ,Sem.run_bind,bG w ht,Result.andThen_ok,Builtin.lenOf,Sem.run_pure,gF w hz,Builtin.firstCells,loadCells,r1,e1,goInt,den]
theorem lD.after {U:St} {ρ':Env} {fps':Nat->Nat->Prop} {res':List aK} {w':World} (h:lD J fps U w0 F0 a w) (hH:bq ρ' fps' res' (known res') w0 F0 w') (hg:Good J U.res ρ' res'):
  lD ρ' fps' {U with res:=res'} w0 F0 a w':=by
 obtain⟨h1,h2,h3,h4⟩:=h;obtain⟨e1,e2⟩:=fC h4 hg.1 hg.2;exact⟨h1.env hg.2 hg.1,hH,by rw[h3];exact e1.symm,e2⟩
def Dy (P:Program) (Y:dR) (ρ0:Env) (res0:List aK):Prop:=
 ∀k args res K KP,Y k args res K KP->∀J fps w0 F0 w,Good ρ0 res0 J res->bq J fps res (known res) w0 F0 w->known res k->fM (known res) args->
  ∃l fn tmps assign body,(Instr.yield (J.num k) (bB J args).toArray).run P w= .ok (.round l fn tmps assign body) w/\
   ∀ro,RoundIn (FF P ro) 0 P l fn tmps assign body w fun e w'=>∃x ρ' fps' res',bq ρ' fps' res' (known res') w0 F0 w'/\Good J res ρ' res'/\ok (known res') x/\
    ((e= .returned (den ρ' x)/\K x res')\/(e= .panicked [{v:=den ρ' x,recovered:=false}]/\KP x res'))
theorem Dy.Ex {P:Program} {Y:dR} {ρ0 ρ1:Env} {res0 res1:List aK} (h:Dy P Y ρ0 res0) (hg:Good ρ0 res0 ρ1 res1):Dy P Y ρ1 res1:=
 fun k args res K KP hy J fps w0 F0 w hg1=>h k args res K KP hy J fps w0 F0 w (hg.trans hg1)
theorem Vw {P:Program} {ρ0:Env} {res0:List aK}:Dy P noY ρ0 res0:=fun _ _ _ _ _ h=>h.elim
theorem HE {o:Oper} {U:St} {ch:List (Nat×Bool)} {q:Option Prop} {x:V} {new:List aK} {K:St->Prop} {next:Act->World->Prop} {Q:Exit->Act->World->Prop} {ro:Option Nat} (hC:C.Sound)
  (ho:CN C U.slots U.res U.res.length ch o.op=some (q,x,new)) (hg:mU U.slots ch=true) (h:qf U.slots o.dst (.v x) fun sl=>DB q (K {U with slots:=sl,res:=oV U.res new})) (hr:lD J fps U w0 F0 a w)
  (hn:∀σ' ρ' fps' a' w',K σ'->lD ρ' fps' σ' w0 F0 a' w'->Good J U.res ρ' σ'.res->next a' w'):o.uponIn (FF C.P ro) 0 C.P a next Q ((execOp a.eval o).run C.P w):=by
 obtain⟨h1,h2,h3,h4⟩:=hr;rw[lI]at h;split at h
 ·rename_i sl hsl;obtain⟨hq,hK⟩:=qH h;have hfr:∀k,k<new.length->¬known U.res (U.res.length+k):=fun k _ hk=>by have:=aO hk;omega
  obtain⟨hy,hnew⟩:=nk hC ho h1 h2 hg hq hfr;refine hy.wp fun v w' ⟨ρ',hg,hv,hx⟩=>?_
  have hfr':∀i,known U.res i->¬fresh U.res.length new.length i:=fun i hi hf=>by have:=aO hi;unfold fresh at hf;omega
  have hK':∀i,known U.res i\/fresh U.res.length new.length i->known (oV U.res new) i:=by
   intro i hi;rw[sm];obtain⟨b1,b2,b3⟩:=kV U.res new;rcases hi with hi|⟨f1,f2⟩
   ·unfold known;rw[(b1 i hi).1];exact hi
   ·have:=b3 (i-U.res.length) (by omega)
    rw[show U.res.length+(i-U.res.length)=i by omega]at this
    unfold known;rw[this];exact hnew _ (by omega)
  obtain⟨fps',g1,g2⟩:=h2.grow (res':=oV U.res new) (by rw[sm];exact kV _ _) hfr' hK' hg
  obtain⟨e1,e2⟩:=fC h4 g2 (fun i hi=>hK' i (.inl hi))
  refine hn _ ρ' fps' _ _ hK ⟨?_,g1,by rw[put_defers,h3];exact e1.symm,e2⟩ ⟨g2,fun i hi=>hK' i (.inl hi)⟩
  exact(h1.env (fun i hi=>hK' i (.inl hi)) g2).oS hsl fun _ _ _ _=>⟨hv,dY hK' _ hx⟩
 ·exact h.elim
theorem BR {H:Handler} {Y:dR} {o:Oper} {U:St} {ch:List (Nat×Bool)} {K:St->Prop} {KP:V->St->Prop} {next:Act->World->Prop} {Q:Exit->Act->World->Prop} {ro:Option Nat} (hC:C.Sound) (hH:H.OK C.P) (hY:Dy C.P Y J U.res)
  (hd:ro≠none->eO o) (hab:∀f,o.about C.P w a.eval=some f->(C.P.funcs[f]?).isSome=true) (h:SU C H Y U ch o K KP) (hg:mU U.slots ch=true) (hr:lD J fps U w0 F0 a w)
  (hn:∀σ' ρ' fps' a' w',K σ'->lD ρ' fps' σ' w0 F0 a' w'->Good J U.res ρ' σ'.res->next a' w')
  (hp:∀v σ' ρ' fps' w',KP v σ'->ok (known σ'.res) v->lD ρ' fps' σ' w0 F0 a w'->Good J U.res ρ' σ'.res->Q (.panic [{v:=den ρ' v,recovered:=false}]) a w'):
  o.wpIn (FF C.P ro) 0 C.P a w next Q:=by
 have hr0:=hr;obtain⟨h1,h2,h3,h4⟩:=hr;have ov:∀{o:Operand} {y:V},fo U.slots ch o=some y->a.eval o=den J y/\ok (known U.res) y:=fun ho=>h9 h1 hg ho
 obtain⟨dst,op,type,pos,after,guard⟩:=o;cases op<;>simp only[SU]at h
 case store t p x=>
  split at h
  ·rename_i pv xv hpv hxv;split at h
   ·rename_i res' hs;obtain⟨w',e1,e2,e3⟩:=rm h2 hs (ov hpv).2 (ov hxv).2
    have hrun:(execOp a.eval {dst:=none,op:= .store t p x,type,pos,after,guard}).run C.P w= .ok .skip w':=by
     simp[execOp,(ov hpv).1,(ov hxv).1,e1]
    refine eR hd hab ?_;rw[hrun]
    refine hn _ J fps _ _ h ⟨?_,e2.u6 fun i hi=>(e3 i).2 hi,h3,fun d hd=>⟨dt (fun i hi=>(e3 i).2 hi) _ (h4 d hd).1,dt (fun i hi=>(e3 i).2 hi) _ (h4 d hd).2⟩⟩
     ⟨Env.bE.refl _ _,fun i hi=>(e3 i).2 hi⟩
    exact h1.env (fun i hi=>(e3 i).2 hi) (Env.bE.refl _ _)
   ·split at h
    ·rename_i q res' hs;obtain⟨hq,hK⟩:=qH h;obtain⟨w',ρ',fps',e1,e2,e3,e4⟩:=E3 h2 hs hq (ov hpv).2 (ov hxv).2
     have hrun:(execOp a.eval {dst:=none,op:= .store t p x,type,pos,after,guard}).run C.P w= .ok .skip w':=by
      simp[execOp,(ov hpv).1,(ov hxv).1,e1]
     refine eR hd hab ?_;rw[hrun];obtain⟨d1,d2⟩:=fC h4 e3 e4;exact hn _ ρ' fps' _ _ hK ⟨h1.env e4 e3,e2,by rw[show(a.put none undef).defers=a.defers from rfl,h3];exact d1.symm,d2⟩ ⟨e3,e4⟩
    ·exact h.elim
  ·exact h.elim
 case insert t m k x=>
  split at h
  case h_2=>exact h.elim
  rename_i mv kv xv hmv hkv hxv
  obtain⟨res',hs,h⟩:∃res',(TD C.P U.res t mv kv xv=some res'\/TE C.P U.res t mv kv xv=some res')/\K {U with res:=res'}:=by
   grind
  obtain⟨w',e1,e2,e3⟩:∃w',(Instr.mapUpdate t (den J mv) (den J kv) (den J xv)).run C.P w= .ok () w'/\bq J fps res' (known U.res) w0 F0 w'/\∀i,known res' i↔known U.res i:=by
   grind[I9,Jv]
  have hrun:(execOp a.eval {dst:=none,op:= .insert t m k x,type,pos,after,guard}).run C.P w= .ok .skip w':=by
   simp[execOp,(ov hmv).1,(ov hkv).1,(ov hxv).1,e1]
  refine eR hd hab ?_;rw[hrun]
  refine hn _ J fps _ _ h ⟨?_,e2.u6 fun i hi=>(e3 i).2 hi,h3,fun d hd=>⟨dt (fun i hi=>(e3 i).2 hi) _ (h4 d hd).1,dt (fun i hi=>(e3 i).2 hi) _ (h4 d hd).2⟩⟩
   ⟨Env.bE.refl _ _,fun i hi=>(e3 i).2 hi⟩
  exact h1.env (fun i hi=>(e3 i).2 hi) (Env.bE.refl _ _)
 case panic x=>
  split at h
  ·rename_i t y hx;obtain⟨e1,e2⟩:=ov hx
   have hrun:(execOp a.eval {dst,op:= .panic x,type,pos,after,guard}).run C.P w= .halt (.panic (den J (.ic t y))) w:=by
    simp[execOp,e1,den,Instr.panic]
   refine eR hd hab ?_;rw[hrun];exact hp _ _ J fps w h e2 ⟨h1.clean,h2,h3,h4⟩ (Good.refl _ _)
  ·exact h.elim
 case call c=>
  split at h
  ·rename_i f hf
   have fnCall:∀(g:Nat) (caps vs:List V),a.eval f=FA g (bB J caps)->fM (known U.res) caps->mQ U.slots ch c.args.toList=some vs->iR C.P (FB g)=true->H (FB g) (To g vs caps) U.res
     (fun x res'=>qf U.slots dst (.v x) fun sl=>K {U with slots:=sl,res:=res'}) (fun x res'=>KP x {U with slots:=clean U.slots,res:=res'})->Oper.wpIn (FF C.P ro) 0 C.P ⟨dst,.call c,type,pos,after,guard⟩ a w next Q:=by
    intro g caps vs e1 e2' has hcall hh;obtain⟨e3,e4⟩:=gR h1 hg has;have hca:=hH _ _ _ _ _ hh J fps w0 F0 w h2 (X2 e4 e2')
    have hrun:(execOp a.eval {dst,op:= .call c,type,pos,after,guard}).run C.P w= .ok (.enter (FB g) (bB J (To g vs caps)).toArray) w:=by
     obtain⟨callee,args,argTypes⟩:=c;simp only at hf;subst hf;unfold iR at hcall;split at hcall
     ·rename_i fn hfn;simp only[aa2,bne_iff_ne,ne_eq]at hcall;have hnm:(fn.name== "runtime.NumGoroutine")=false:=by simpa using hcall.1
      have hbd:fn.body.isNone=false:=by
       simp_all
      have ha:args.map a.eval=(bB J vs).toArray:=by apply Array.ext';simp[e3]
      unfold FA at e1;unfold FB at hfn⊢;unfold To;cases hlo:Nat.blt g 2000 with
      |true=>
       simp only[hlo,if_true]at e1 hfn⊢;have hcat:(bB J vs).toArray++(bB J caps).toArray=(bB J (vs++caps)).toArray:=by simp[jD]
       simp only[execOp,resolve,e1,den,Deferred.ofValue,ha,Sem.run_bind,Sem.run_pure,Result.andThen_ok,invoke,callFunc,run_program,hfn,hnm,Bool.false_eq_true,if_false,hbd,
        Array.empty_append,hcat]
      |false=>
       simp only[hlo,Bool.false_eq_true,if_false]at e1 hfn⊢;have hcat:(bB J caps).toArray++(bB J vs).toArray=(bB J (caps++vs)).toArray:=by simp[jD]
       simp only[execOp,resolve,e1,den,Deferred.ofValue,ha,Sem.run_bind,Sem.run_pure,Result.andThen_ok,invoke,callFunc,run_program,hfn,hnm,Bool.false_eq_true,if_false,hbd,
        Array.append_empty,hcat]
     ·simp at hcall
    refine eR hd hab ?_;rw[hrun];refine⟨fun h=>by simp[FF]at h,CallsIn.mono (Ah hca) fun e w' ⟨x,ρ',fps',res',g1,g2,g3,g4⟩=>?_⟩
    have hra:=hr0.after g1 g2;rcases g4 with⟨rfl,hK⟩|⟨rfl,hK⟩
    ·simp only;rw[lI]at hK;split at hK
     ·rename_i sl hsl;obtain⟨k1,k2,k3,k4⟩:=hra;exact hn _ ρ' fps' _ _ hK ⟨k1.oS hsl fun _ _ _ _=>⟨rfl,g3⟩,k2,by rw[put_defers];exact k3,k4⟩ g2
     ·exact hK.elim
    ·obtain⟨k1,k2,k3,k4⟩:=hra;exact hp _ _ ρ' fps' w' hK g3 ⟨k1.clean,k2,k3,k4⟩ g2
   split at h
   ·rename_i g caps vs hfv has;obtain⟨e1,e2⟩:=ov hfv;exact fnCall g caps vs e1 e2 has h.1 h.2
   ·rename_i b g caps y vs hfv has;obtain⟨e1,e2⟩:=ov hfv;obtain⟨g',caps',d1,d2,d3,d4⟩:=w7 (J:=J) _ h e2;exact fnCall g' caps' vs (e1.trans d1) d2 has d3 d4
   ·rename_i k vs hfv has;obtain⟨e1,e2⟩:=ov hfv;obtain⟨e3,e4⟩:=gR h1 hg has;obtain⟨l,fn,tmps,assign,body,y1,y2⟩:=hY _ _ _ _ _ h J fps w0 F0 w (Good.refl _ _) h2 e2 e4;refine⟨hab,?_⟩
    have hsem:Oper.semAt (FF C.P ro).round a.eval {dst,op:= .call c,type,pos,after,guard}=execOp a.eval {dst,op:= .call c,type,pos,after,guard}:=by
     show Oper.semAt ro _ _=_
     cases ro with
     |none=>exact Oper.semAt_none _ _
     |some l=>exact Oper.semAt_some l _ _ (fun c=>by simp)
    rw[hsem]
    have hrun:(execOp a.eval {dst,op:= .call c,type,pos,after,guard}).run C.P w= .ok (.round l fn tmps assign body) w:=by
     obtain⟨callee,args,argTypes⟩:=c;simp only at hf;subst hf;have ha:args.map a.eval=(bB J vs).toArray:=by apply Array.ext';simp[e3]
     simp only[execOp,resolve,e1,den,Deferred.ofValue,ha,Sem.run_bind,Sem.run_pure,Result.andThen_ok,invoke,callFunc,Array.empty_append,Array.append_empty];exact y1
    rw[hrun];refine⟨fun h=>by simp[FF]at h,RoundIn.mono (y2 ro) fun e w' ⟨x,ρ',fps',res',g1,g2,g3,g4⟩=>?_⟩
    have hra:=hr0.after g1 g2;rcases g4 with⟨rfl,hK⟩|⟨rfl,hK⟩
    ·simp only;rw[lI]at hK;split at hK
     ·rename_i sl hsl;obtain⟨k1,k2,k3,k4⟩:=hra;exact hn _ ρ' fps' _ _ hK ⟨k1.oS hsl fun _ _ _ _=>⟨rfl,g3⟩,k2,by rw[put_defers];exact k3,k4⟩ g2
     ·exact hK.elim
    ·obtain⟨k1,k2,k3,k4⟩:=hra;exact hp _ _ ρ' fps' w' hK g3 ⟨k1.clean,k2,k3,k4⟩ g2
   ·exact h.elim
  ·rename_i hcal;split at h
   ·rename_i t t' x y hts has;split at h
    ·rename_i htt;have htt:=aa4.1 htt;subst htt;split at h
     ·rename_i q v res' hap;obtain⟨hq,hK⟩:=qH h;rw[lI]at hK;split at hK
      ·rename_i sl hsl;obtain⟨e3,e4⟩:=gR h1 hg has;obtain⟨w',ρ',fps',g1,g2,g3,g4,g5⟩:=JD (ty:=type) hC.z h2 hap hq e4.1
       have hrun:(execOp a.eval {dst,op:= .call c,type,pos,after,guard}).run C.P w= .ok (.value (den ρ' v)) w':=by
        obtain⟨callee,args,argTypes⟩:=c;simp only at hcal hts e3;subst hcal;have ha:args.map a.eval= #[den J x,den J y]:=by apply Array.ext';simp[e3,bB]
        have hty:argTypes= #[t,t]:=by apply Array.ext';simpa using hts
        subst hty;simp only[execOp,resolve,Sem.run_bind,Sem.run_pure,Result.andThen_ok,invoke,builtin,ha];rw[g1];rfl
       refine eR hd hab ?_;rw[hrun];obtain⟨k1,k2,k3,k4⟩:=hr0.after g2 ⟨g3,g4⟩;exact hn _ ρ' fps' _ _ hK ⟨k1.oS hsl fun _ _ _ _=>⟨rfl,g5⟩,k2,by rw[put_defers];exact k3,k4⟩ ⟨g3,g4⟩
      ·exact hK.elim
     ·exact h.elim
    ·exact h.elim
   ·exact h.elim
  ·rename_i hcal;split at h
   case h_2=>exact h.elim
   rename_i vs has;split at h
   case h_2=>exact h.elim
   rename_i v res' hcp;rw[lI]at h;split at h
   case h_2=>exact h.elim
   rename_i sl hsl;obtain⟨e3,e4⟩:=gR h1 hg has;obtain⟨w',g1,g2,g3,g5⟩:=Mi (ty:=type) h2 hcp e4
   have hrun:(execOp a.eval {dst,op:= .call c,type,pos,after,guard}).run C.P w= .ok (.value (den J v)) w':=by
    obtain⟨callee,args,argTypes⟩:=c;simp only at hcal e3;subst hcal;have ha:args.map a.eval=(bB J vs).toArray:=by apply Array.ext';simp[e3]
    simp only[execOp,resolve,Sem.run_bind,Sem.run_pure,Result.andThen_ok,invoke,builtin,ha];simp only[Array.toArray_toList]at g1;rw[g1];rfl
   refine eR hd hab ?_;rw[hrun];have hgd:Good J U.res J res':=⟨Env.bE.refl _ _,fun i hi=>(g3 i).2 hi⟩
   obtain⟨k1,k2,k3,k4⟩:=hr0.after (g2.u6 fun i hi=>(g3 i).2 hi) hgd
   exact hn _ J fps _ _ h ⟨k1.oS hsl fun _ _ _ _=>⟨rfl,dY (fun i hi=>(g3 i).2 hi) _ g5⟩,k2,by rw[put_defers];exact k3,k4⟩ hgd
  ·rename_i hcal;split at h
   case h_2=>exact h.elim
   rename_i vs has;split at h
   case h_2=>exact h.elim
   rename_i res' hcp;rw[lI]at h;split at h
   case h_2=>exact h.elim
   rename_i sl hsl;obtain⟨e3,e4⟩:=gR h1 hg has;obtain⟨w',g1,g2,g3⟩:=Kj (ty:=type) hC.z h2 hcp e4
   have hrun:(execOp a.eval {dst,op:= .call c,type,pos,after,guard}).run C.P w= .ok (.value (den J (.tp []))) w':=by
    obtain⟨callee,args,argTypes⟩:=c;simp only at hcal e3;subst hcal;have ha:args.map a.eval=(bB J vs).toArray:=by apply Array.ext';simp[e3]
    simp only[execOp,resolve,Sem.run_bind,Sem.run_pure,Result.andThen_ok,invoke,builtin,ha];simp only[Array.toArray_toList]at g1;rw[g1];rfl
   refine eR hd hab ?_;rw[hrun];have hgd:Good J U.res J res':=⟨Env.bE.refl _ _,fun i hi=>(g3 i).2 hi⟩
   obtain⟨k1,k2,k3,k4⟩:=hr0.after (g2.u6 fun i hi=>(g3 i).2 hi) hgd
   exact hn _ J fps _ _ h ⟨k1.oS hsl fun _ _ _ _=>⟨rfl,trivial⟩,k2,by rw[put_defers];exact k3,k4⟩ hgd
  ·exact h.elim
 case defer c=>
  split at h
  ·rename_i f hf;split at h
   ·rename_i g caps vs hfv has;obtain⟨e1,e2⟩:=ov hfv;obtain⟨e3,e4⟩:=gR h1 hg has;split at h
    case h_2=>exact h.elim
    rename_i hmk;split at h
    case isFalse=>exact h.elim
    rename_i hlo;have e1:a.eval f= .func (.func g) #[] (bB J caps).toArray:=e1.trans (z0 hlo)
    have hrun:(execOp a.eval {dst:=none,op:= .defer c,type,pos,after,guard}).run C.P w= .ok (.defer {target:= .fn (.func g) (bB J caps).toArray,args:=(bB J vs).toArray}) w:=by
     obtain⟨callee,args,argTypes⟩:=c;simp only at hf;subst hf;have ha:args.map a.eval=(bB J vs).toArray:=by apply Array.ext';simp[e3]
     simp[execOp,resolve,e1,den,Deferred.ofValue,ha]
    refine eR hd hab ?_;rw[hrun];refine hn _ J fps _ _ h ⟨h1,h2,by simp[Act.put,h3,lO,hmk],fun d hd=>?_⟩ (Good.refl _ _)
    rcases List.mem_cons.1 hd with rfl|hd
    ·exact⟨e4,e2⟩
    ·exact h4 d hd
   ·exact h.elim
  ·exact h.elim
theorem Dz (ch:List (Nat×Bool)):∀(l:List S) (i t:Nat),b9 (Ix ch i l) t=Dl ch (i+t) (b9 l t)
 | [],i,t=>by simp[Ix,b9,Dl]
 |s::l,i,0=>by simp[Ix,b9]
 |s::l,i,t+1=>by simp only[Ix,b9];rw[Dz ch l (i+1) t,show i+1+t=i+(t+1) by omega]
theorem An (ch:List (Nat×Bool)):∀(l:List S) (i:Nat),(Ix ch i l).length=l.length
 | [],_=>rfl
 |s::l,i=>by simp[Ix,An ch l]
theorem Bu (q:Nat) (w:Bool):∀(l:List S) (i t:Nat),b9 (Ed q w i l) t=fixF q w (i+t) (b9 l t)
 | [],i,t=>by simp[Ed,b9,fixF]
 |s::l,i,0=>by simp[Ed,b9]
 |s::l,i,t+1=>by simp only[Ed,b9];rw[Bu q w l (i+1) t,show i+1+t=i+(t+1) by omega]
theorem wU (q:Nat) (w:Bool):∀(l:List S) (i:Nat),(Ed q w i l).length=l.length
 | [],_=>rfl
 |s::l,i=>by simp[Ed,wU q w l]
theorem za:∀{ch:List (Nat×Bool)} {i:Nat} {w:Bool},xG ch i=some w->(i,w)∈ch
 | [],_,_,h=>by simp[xG]at h
 | (s,v)::c,i,w,h=>by
   simp only[xG]at h;split at h
   ·rename_i e;have e:=aa4.1 e;simp only[aa0]at h;subst e;subst h;simp
   ·exact List.mem_cons_of_mem _ (za h)
theorem MC {sl:List S} {ch:List (Nat×Bool)} (hg:mU sl ch=true) (t:Nat):raw (Dl ch t (b9 sl t))=raw (b9 sl t):=by
 have key:∀w,xG ch t=some w->raw (b9 sl t)=some w:=fun w hw=>(yt sl ch).1 hg (t,w) (za hw)
 cases hs:b9 sl t with
 |und=>rfl
 |ud=>rfl
 |v y=>
  rw[hs]at key;cases y<;>try rfl
  simp only[Dl];cases hw:xG ch t with
  |none=>rfl
  |some w=>exact(key w hw).symm
 |gv c y=>
  rw[hs]at key;simp only[Dl];split
  ·cases y<;>try rfl
   simp only;cases hw:xG ch t with
   |none=>rfl
   |some w=>exact(key w hw).symm
  ·rfl
theorem Du {sl sl':List S} (h:∀t,raw (b9 sl' t)=raw (b9 sl t)):∀c,mU sl' c=mU sl c
 | []=>rfl
 | (s,w)::c=>by rw[jn,jn,h,Du h c]
theorem jo.Ix {K:Nat->Prop} {sl:List S} {ch:List (Nat×Bool)} (h:jo J K sl a) (hg:mU sl ch=true):jo J K (Ix ch 0 sl) a:=by
 have hget:∀t,b9 (Sx.Ix ch 0 sl) t=Dl ch t (b9 sl t):=fun t=>by rw[Dz,Nat.zero_add]
 have hraw:∀t,raw (b9 (Sx.Ix ch 0 sl) t)=raw (b9 sl t):=fun t=>by rw[hget,MC hg]
 refine⟨by rw[An];exact h.1,fun t=>?_⟩
 rw[hget];have ht:=h.2 t;have key:∀w,xG ch t=some w->raw (b9 sl t)=some w:=fun w hw=>(yt sl ch).1 hg (t,w) (za hw)
 cases hs:b9 sl t with
 |und=>trivial
 |ud=>rw[hs]at ht;exact ht
 |v y=>
  rw[hs]at ht key;cases y<;>try exact ht
  simp only[Dl];cases hw:xG ch t with
  |none=>exact ht
  |some w=>
   have:=key w hw;simp only[raw,aa0]at this;subst this;exact ht
 |gv c y=>
  rw[hs]at ht key;simp only[Dl];split
  ·rename_i hsub;obtain⟨e1,e2⟩:=ht.1 (HZ hsub hg);cases y<;>try exact⟨e1,e2⟩
   simp only;cases hw:xG ch t with
   |none=>exact⟨e1,e2⟩
   |some w=>
    have:=key w hw;simp only[raw,aa0]at this;subst this;exact⟨e1,e2⟩
  ·exact⟨fun hgc=>ht.1 (by rwa [Du hraw]at hgc),fun hgc=>ht.2 (by rwa [Du hraw]at hgc)⟩
theorem jo.ZW {K:Nat->Prop} {sl:List S} {ch:List (Nat×Bool)} (h:jo J K sl a) (hg:mU sl ch=false):jo J K (ZW ch sl) a:=by
 unfold Sx.ZW;split
 ·rename_i q w;split
  ·rename_i b hq
   have hb:b= !w:=by
    grind[jn,raw,mU]
   refine⟨by rw[wU];exact h.1,fun t=>?_⟩
   rw[Bu,Nat.zero_add];have ht:=h.2 t;cases hs:b9 sl t with
   |und=>trivial
   |ud=>rw[hs]at ht;exact ht
   |v y=>
    rw[hs]at ht;cases y<;>try exact ht
    simp only[fixF];split
    ·rename_i e;have e:=aa4.1 e;subst e;rw[hq]at hs;simp only[S.v.injEq,V.bo.injEq]at hs;subst hs;rw[<-hb];exact ht
    ·exact ht
   |gv c y=>
    rw[hs]at ht;simp only[fixF];split
    ·rename_i hc;refine ht.2 ?_;cases hgc:mU sl c with
     |false=>rfl
     |true=>
      simp only[Ha,List.any_eq_true,aa2,aa4]at hc;obtain⟨p,hp,e1,e2⟩:=hc;have:=(yt sl c).1 hgc p hp;rw[e1,e2,hq]at this;simp only[raw,aa0]at this;rw[this]at hb;cases w<;>simp at hb
    ·trivial
  ·exact h
 ·exact h
theorem lW {H:Handler} {Y:dR} {ops:Array Oper} {o:Oper} {U:St} {K:St->Prop} {KP:V->St->Prop} {next:Act->World->Prop} {Q:Exit->Act->World->Prop} {ro:Option Nat} (hC:C.Sound) (hH:H.OK C.P) (hY:Dy C.P Y J U.res)
  (hd:ro≠none->eO o) (h:zY C H Y ops.toList o U K KP) (hr:lD J fps U w0 F0 a w)
  (hn:∀σ' ρ' fps' a' w',K σ'->lD ρ' fps' σ' w0 F0 a' w'->Good J U.res ρ' σ'.res->next a' w')
  (hp:∀v σ' ρ' fps' w',KP v σ'->ok (known σ'.res) v->lD ρ' fps' σ' w0 F0 a w'->Good J U.res ρ' σ'.res->Q (.panic [{v:=den ρ' v,recovered:=false}]) a w'):
  (∀f,o.about C.P w a.eval=some f->(FF C.P ro).fn f)/\if Region.wanted o (yielded ops a.tmps)then o.wpIn (FF C.P ro) 0 C.P a w next Q else next (a.put o.dst undef) w:=by
 have hr0:=hr;obtain⟨h1,h2,h3,h4⟩:=hr
 have skip:(qf U.slots o.dst .ud fun sl=>K {U with slots:=sl})->next (a.put o.dst undef) w:=fun h=>by
  rw[lI]at h;split at h
  ·rename_i sl hsl;exact hn _ J fps _ _ h ⟨h1.oS hsl fun _ _ _ _=>rfl,h2,by rw[put_defers];exact h3,h4⟩ (Good.refl _ _)
  ·exact h.elim
 unfold zY at h;split at h
 case isFalse=>exact h.elim
 rename_i hab;have hab:=EL h1 hab w;refine⟨hab,?_⟩;split at h
 ·exact h.elim
 ·rename_i hc;rw[nc h1 hc];simp only[xw,Bool.false_eq_true,if_false];exact skip h
 ·rename_i ch hc;rw[nc h1 hc];rw[show xw U.slots (some ch)=mU U.slots ch from rfl];split at h
  ·rename_i q x new ho;split at h
   ·rename_i hch;have hch:ch= []:=by simpa using hch
    subst hch;simp only[mU,if_true];exact eR hd hab (HE hC ho rfl h hr0 hn)
   ·split at h
    ·rename_i hne;have hne:new= []:=by simpa using hne
     subst hne;rw[lI]at h;split at h
     ·rename_i sl hsl;obtain⟨hq,hK⟩:=Ee h;by_cases hgo:mU U.slots ch=true
      ·rw[aa9 hgo];obtain⟨hy,_⟩:=nk hC ho h1 h2 hgo (hq hgo) fun k hk=>by simp at hk
       refine eR hd hab (hy.wp fun v w' ⟨ρ',hg,hv,hx⟩=>?_)
       have hfr':∀i,known U.res i->¬fresh U.res.length ([]:List aK).length i:=fun i hi hf=>by unfold fresh at hf;simp at hf;omega
       have hK':∀i,known U.res i\/fresh U.res.length ([]:List aK).length i->known U.res i:=fun i hi=>by
        grind[fresh]
       obtain⟨fps',g1,g2⟩:=h2.grow (res':=U.res) (by have:=kV U.res [];simpa using this) hfr' hK' hg
       obtain⟨e1,e2⟩:=fC h4 g2 (fun i hi=>hi)
       refine hn _ ρ' fps' _ _ hK ⟨?_,g1,by rw[put_defers,h3];exact e1.symm,e2⟩ ⟨g2,fun i hi=>hi⟩
       refine(h1.env (fun i hi=>hi) g2).oS hsl fun d hd hf hnm=>⟨fun _=>⟨hv,dY hK' _ hx⟩,fun hgf=>?_⟩
       rw[uT (hnm ch x rfl),hgo]at hgf;simp at hgf
      ·rw[aa8 hgo];refine hn _ J fps _ _ hK ⟨?_,h2,by rw[put_defers];exact h3,h4⟩ (Good.refl _ _)
       refine h1.oS hsl fun d hd hf hnm=>⟨fun hgt=>?_,fun _=>rfl⟩
       rw[uT (hnm ch x rfl)]at hgt;exact absurd hgt hgo
     ·exact h.elim
    ·obtain⟨ht,hf⟩:=h;split
     ·rename_i hgo;exact eR hd hab (HE hC ho hgo (ht hgo) hr0 hn)
     ·rename_i hgo;exact skip (hf (by simpa using hgo))
  ·split at h
   ·grind[mU,BR]
   ·obtain⟨ht,hf⟩:=h;simp only[vl]at ht hf;split
    ·rename_i hgo;exact BR (U:= {U with slots:=Ix ch 0 U.slots}) hC hH hY hd hab (ht hgo) rfl ⟨h1.Ix hgo,h2,h3,h4⟩ hn hp
    ·rename_i hgo;have hf:=hf (by simpa using hgo)
     rw[lI]at hf;split at hf
     ·rename_i sl hsl;exact hn _ J fps _ _ hf ⟨(h1.ZW (by simpa using hgo)).oS hsl fun _ _ _ _=>rfl,h2,by rw[put_defers];exact h3,h4⟩ (Good.refl _ _)
     ·exact hf.elim
end
def jI:List Prop->Prop
 | []=>True
 | [p]=>p
 |p::l=>p/\jI l
theorem uw:∀l:List Prop,jI l↔ ∀p∈l,p
 | []=>by simp[jI]
 | [p]=>by simp only[jI,List.mem_singleton];exact⟨fun h q hq=>hq▸h,fun h=>h p rfl⟩
 |p::q::l=>by
  have:=uw (q::l);simp only[jI,List.mem_cons,forall_eq_or_imp]at this⊢;rw[this]
def qp (a b:Option (List Prop)):Option (List Prop):=
 match a,b with
 |some x,some y=>some (x++y)
 |_,_=>none
def nr (b:Bool) (l:List Prop):Option (List Prop):=if b then some l else none
mutual
def xA:V->V->Option (List Prop)
 | .cb a,.cb b=>some [a=b]
 | .cb a,.bo b=>some [a=b]
 | .bo a,.cb b=>some [a=b]
 | .bo a,.bo b=>some [a=b]
 | .ci k a,.ci k' b=>nr (k==k'&&decide (a=b)) []
 | .ci k a,.it k' b=>nr (k==k') [a=b]
 | .it k a,.ci k' b=>nr (k==k') [a=b]
 | .it k a,.it k' b=>nr (k==k') [a=b]
 | .bt a,.bt b=>some [a=b]
 | .st a,.st b=>some [a=b]
 | .nl a,.nl b=>some [a=b]
 | .lp i o,.lp i' o'=>nr (i==i'&&o==o') []
 | .lx a b c d i e,.lx a' b' c' d' i' e'=>nr (a==a'&&b==b'&&c==c'&&e==e') [d=d',i=i']
 | .sc i n c,.sc i' n' c'=>nr (i==i') [n=n',c=c']
 | .so i n,.so i' n'=>nr (i==i') [n=n']
 | .ap i e j o,.ap i' e' j' o'=>nr (i==i'&&e==e'&&o==o') [j=j']
 | .sa i,.sa i'=>nr (i==i') []
 | .op i n,.op i' n'=>nr (i==i') [n=n']
 | .yl i,.yl i'=>nr (i==i') []
 | .fn f l,.fn g m=>if f==g then sX l m else none
 | .ic t x,.ic u y=>if t==u then xA x y else none
 | .ag l,.ag m=>sX l m
 | .tp l,.tp m=>sX l m
 | .key a,.key b=>some [a=b]
 | .sl a,.sl b=>some [a=b]
 | .by a,.by b=>some [a=b]
 | .ob a,.ob b=>some [a=b]
 |_,_=>none
def sX:List V->List V->Option (List Prop)
 | [],[]=>some []
 |x::l,y::m=>qp (xA x y) (sX l m)
 |_,_=>none
end
def tt (J:Env) (K:Nat->Prop) (x y:V):Prop:=den J x=den J y/\(ok K x->ok K y)/\cS x=cS y
def aaE (J:Env) (K:Nat->Prop) (x y:List V):Prop:=bB J x=bB J y/\bp J x=bp J y/\(fM K x->fM K y)/\(tg x->tg y)
theorem tt.refl (J:Env) (K:Nat->Prop) (x:V):tt J K x x:=⟨rfl,id,rfl⟩
theorem kP {a b:Option (List Prop)} {l:List Prop} (h:qp a b=some l) (hl:jI l):∃x y,a=some x/\b=some y/\jI x/\jI y:=by
 unfold qp at h;split at h<;>simp only[aa0,reduceCtorEq]at h
 rename_i x y;subst h;rw[uw]at hl;exact⟨x,y,rfl,rfl,(uw x).2 fun p hp=>hl p (List.mem_append.2 (.inl hp)),(uw y).2 fun p hp=>hl p (List.mem_append.2 (.inr hp))⟩
theorem gk {b:Bool} {l m:List Prop} (h:nr b l=some m):b=true/\m=l:=by
 unfold nr at h;split at h<;>simp_all
mutual
theorem qT (J:Env) (K:Nat->Prop):∀(x y:V) (l:List Prop),xA x y=some l->jI l->tt J K x y
 | .fn f l,y,m,h,hl=>by
   cases y<;>simp only[xA,reduceCtorEq]at h
   split at h
   ·rename_i he;have he:=aa4.1 he;subst he;obtain⟨a,_,c,_⟩:=nj J K _ _ _ h hl;exact⟨by simp only[den,a],c,rfl⟩
   ·simp at h
 | .ic t x,y,m,h,hl=>by
   cases y<;>simp only[xA,reduceCtorEq]at h
   split at h
   ·rename_i he;have he:=aa4.1 he;subst he;obtain⟨a,c,_⟩:=qT J K _ _ _ h hl;exact⟨by simp only[den,a],c,rfl⟩
   ·simp at h
 | .ag l,y,m,h,hl=>by
   cases y<;>simp only[xA,reduceCtorEq]at h
   obtain⟨_,b,c,d⟩:=nj J K _ _ _ h hl;exact⟨by simp only[den,b],fun hh=>⟨c hh.1,d hh.2⟩,rfl⟩
 | .tp l,y,m,h,hl=>by
   cases y<;>simp only[xA,reduceCtorEq]at h
   obtain⟨a,_,c,_⟩:=nj J K _ _ _ h hl;exact⟨by simp only[den,a],c,rfl⟩
 | .lp i o,y,m,h,hl=>by
   cases y<;>simp only[xA,reduceCtorEq]at h
   obtain⟨hb,rfl⟩:=gk h;simp only[aa2,aa4]at hb;obtain⟨rfl,rfl⟩:=hb;exact tt.refl _ _ _
 | .ax _ _ _ _ _ _ _ _,y,m,h,hl=>by cases y<;>simp[xA]at h
 | .bs _ _ _,y,m,h,hl=>by cases y<;>simp[xA]at h
 | .ks _ _ _ _ _,y,m,h,hl=>by cases y<;>simp[xA]at h
 | .sa i,y,m,h,hl=>by
   cases y<;>simp only[xA,reduceCtorEq]at h
   obtain⟨hb,rfl⟩:=gk h;have hb:=aa4.1 hb;subst hb;exact tt.refl _ _ _
 | .yl i,y,m,h,hl=>by
   cases y<;>simp only[xA,reduceCtorEq]at h
   obtain⟨hb,rfl⟩:=gk h;have hb:=aa4.1 hb;subst hb;exact tt.refl _ _ _
 | .lx a b c d i e,y,m,h,hl=>by
   cases y<;>simp only[xA,reduceCtorEq]at h
   obtain⟨hb,rfl⟩:=gk h;simp only[aa2,aa4]at hb;obtain⟨⟨⟨rfl,rfl⟩,rfl⟩,rfl⟩:=hb;simp only[jI]at hl;obtain⟨rfl,rfl⟩:=hl;exact tt.refl _ _ _
 | .sc i n c,y,m,h,hl=>by
   cases y<;>simp only[xA,reduceCtorEq]at h
   obtain⟨hb,rfl⟩:=gk h;have hb:=aa4.1 hb;subst hb;simp only[jI]at hl;obtain⟨rfl,rfl⟩:=hl;exact tt.refl _ _ _
 | .op i n,y,m,h,hl=>by
   cases y<;>simp only[xA,reduceCtorEq]at h
   obtain⟨hb,rfl⟩:=gk h;have hb:=aa4.1 hb;subst hb;simp only[jI]at hl;subst hl;exact tt.refl _ _ _
 | .so i n,y,m,h,hl=>by
   cases y<;>simp only[xA,reduceCtorEq]at h
   obtain⟨hb,rfl⟩:=gk h;have hb:=aa4.1 hb;subst hb;simp only[jI]at hl;subst hl;exact tt.refl _ _ _
 | .ap i e j o,y,m,h,hl=>by
   cases y<;>simp only[xA,reduceCtorEq]at h
   obtain⟨hb,rfl⟩:=gk h;simp only[aa2,aa4]at hb;obtain⟨⟨rfl,rfl⟩,rfl⟩:=hb;simp only[jI]at hl;subst hl;exact tt.refl _ _ _
 | .ci k a,y,m,h,hl=>by
   cases y<;>simp only[xA,reduceCtorEq]at h<;>obtain⟨hb,rfl⟩:=gk h
   ·simp only[aa2,aa4,aa3]at hb;obtain⟨rfl,rfl⟩:=hb;exact⟨rfl,id,rfl⟩
   ·have hb:=aa4.1 hb;subst hb;simp only[jI]at hl;subst hl;exact⟨rfl,id,rfl⟩
 | .it k a,y,m,h,hl=>by
   cases y<;>simp only[xA,reduceCtorEq]at h<;>obtain⟨hb,rfl⟩:=gk h<;>have hb:=aa4.1 hb<;>subst hb<;>simp only[jI]at hl<;>subst hl<;>exact⟨rfl,id,rfl⟩
 | .cb a,y,m,h,hl| .bo a,y,m,h,hl| .bt a,y,m,h,hl| .st a,y,m,h,hl| .nl a,y,m,h,hl| .key a,y,m,h,hl| .sl a,y,m,h,hl| .by a,y,m,h,hl| .ob a,y,m,h,hl=>by
   cases y<;>simp only[xA,reduceCtorEq,aa0]at h<;>subst h<;>simp only[jI]at hl<;>subst hl<;>exact⟨rfl,id,rfl⟩
theorem nj (J:Env) (K:Nat->Prop):∀(x y:List V) (l:List Prop),sX x y=some l->jI l->aaE J K x y
 | [],[],_,_,_=>⟨rfl,rfl,id,id⟩
 | [],_::_,_,h,_=>by simp[sX]at h
 |_::_,[],_,h,_=>by simp[sX]at h
 |x::l,y::m,p,h,hp=>by
  simp only[sX]at h;obtain⟨a,b,h1,h2,h3,h4⟩:=kP h hp;obtain⟨e1,e2,e3⟩:=qT J K x y a h1 h3;obtain⟨f1,f2,f3,f4⟩:=nj J K l m b h2 h4;refine⟨by simp only[bB,e1,f1],by simp only[bp,e1,f2],fun hh=>⟨e2 hh.1,f3 hh.2⟩,fun hh=>?_⟩
  rw[eF]at hh⊢;intro z hz;rcases List.mem_cons.1 hz with rfl|hz
  ·rw[<-e3];exact hh x (by simp)
  ·exact(eF _).1 (f4 ((eF _).2 fun q hq=>hh q (by simp[hq]))) z hz
end
def kQ (res:List aK) (i:Nat):Bool:=
 match ay res i with
 | .yet=>false
 |_=>true
theorem cC {res:List aK} {i:Nat}:kQ res i=true↔known res i:=by
 unfold kQ known;cases ay res i<;>simp
mutual
def within (res:List aK):V->Bool
 | .lp i _=>kQ res i
 | .lx i _ _ _ _ _=>kQ res i
 | .sc i _ _=>kQ res i
 | .so i _=>kQ res i
 | .ap i _ _ _=>kQ res i
 | .ax i _ _ _ _ _ _ _=>kQ res i
 | .sa i=>kQ res i
 | .op i _=>kQ res i
 | .yl i=>kQ res i
 | .mp i=>kQ res i
 | .ch _ _ l y=>mZ res l&&within res y
 | .bs x _ _=>within res x
 | .ks x _ _ _ _=>within res x
 | .fn _ l=>mZ res l
 | .ic _ x=>within res x
 | .ag l=>mZ res l
 | .tp l=>mZ res l
 |_=>true
def mZ (res:List aK):List V->Bool
 | []=>true
 |x::l=>within res x&&mZ res l
end
mutual
theorem jU {res:List aK} {K:Nat->Prop}:∀v,within res v=true->ok K v->ok (known res) v
 | .lp i _,h,_| .sc i _ _,h,_| .so i _,h,_| .ap i _ _ _,h,_| .sa i,h,_| .op i _,h,_| .yl i,h,_| .mp i,h,_=>cC.1 (by simpa[within]using h)
 | .bs x _ _,h,hk=>⟨jU x (by simpa only[within]using h) hk.1,hk.2⟩
 | .ks x _ _ _ _,h,hk=>⟨jU x (by simpa only[within]using h) hk.1,hk.2⟩
 | .ch _ _ l y,h,hk=>by
   simp only[within,aa2]at h;exact⟨jf l h.1 hk.1,jU y h.2 hk.2.1,hk.2.2⟩
 | .lx i _ _ _ _ _,h,hk=>⟨cC.1 (by simpa[within]using h),hk.2⟩
 | .ax i _ _ _ _ _ _ _,h,hk=>⟨cC.1 (by simpa[within]using h),hk.2⟩
 | .fn _ l,h,hk=>jf l (by simpa[within]using h) hk
 | .tp l,h,hk=>jf l (by simpa[within]using h) hk
 | .ag l,h,hk=>⟨jf l (by simpa[within]using h) hk.1,hk.2⟩
 | .ic _ x,h,hk=>jU x (by simpa[within]using h) hk
 | .cb _,_,h| .bo _,_,h| .ci _ _,_,h| .it _ _,_,h| .bt _,_,h| .st _,_,h| .nl _,_,h| .key _,_,h| .sl _,_,h| .by _,_,h| .ob _,_,h=>h
theorem jf {res:List aK} {K:Nat->Prop}:∀l,mZ res l=true->fM K l->fM (known res) l
 | [],_,_=>trivial
 |x::l,h,hk=>by
  simp only[mZ,aa2]at h;exact⟨jU x h.1 hk.1,jf l h.2 hk.2⟩
end
def mE (res:List aK):List S->List S->Option (List Prop)
 | [],[]=>some []
 |x::l,y::m=>match y with
  | .und=>mE res l m
  | .v b=>match x with
    | .v a=>if within res b then qp (xA a b) (mE res l m)else none
    |_=>none
  |_=>none
 |_,_=>none
def V2:TL->TL->Option (List Prop)
 | .fn n g,.fn n' g'=>some [n=n',g=g']
 | .ob a,.ob b=>some [a=b]
 | .key a,.key b=>some [a=b]
 | .it k a,.it k' b=>nr (k==k') [a=b]
 | .bo a,.bo b=>some [a=b]
 | .st a,.st b=>some [a=b]
 |_,_=>none
theorem JU {a b:TL} {p:List Prop} (h:V2 a b=some p) (hp:jI p):a=b:=by
 cases a<;>cases b<;>simp only[V2,aa0,reduceCtorEq]at h
 ·subst h;simp only[jI]at hp;obtain⟨rfl,rfl⟩:=hp;rfl
 ·subst h;simp only[jI]at hp;subst hp;rfl
 ·subst h;simp only[jI]at hp;subst hp;rfl
 ·grind[gk,jI]
 ·subst h;simp only[jI]at hp;subst hp;rfl
 ·subst h;simp only[jI]at hp;subst hp;rfl
def H2 (o' o:Option Nat):Bool:=match o with
 |none=>true
 |some e=>match o' with
  |some e'=>e==e'
  |none=>false
def CU:LoopState->LoopState->Bool
 | .ready,.ready=>true
 | .busy,.busy=>true
 | .done,.done=>true
 | .exhausted,.exhausted=>true
 |_,_=>false
theorem Bs {a b:LoopState} (h:CU a b=true):a=b:=by cases a<;>cases b<;>first|rfl|simp[CU]at h
def uo (all:List aK):aK->aK->Option (List Prop)
 |x,.yet=>some []
 |x,.gone=>match x with
  | .yet=>none
  |_=>some []
 |x,.blk t c=>match x with
  | .blk t' c'=>if t==t'&&within all c then xA c' c else none
  |_=>none
 |x,.arr o e g=>match x with
  | .arr o' e' g'=>if e==e'&&H2 o' o then V2 g' g else none
  |_=>none
 |x,.obs t q L=>match x with
  | .obs t' q' L'=>if t==t'&&q==q'&&kQ all q then some [L'=L]else none
  |_=>none
 |x,.gen j=>match x with
  | .gen j'=>if j==j' then some []else none
  |_=>none
 |x,.store t e L=>match x with
  | .store t' e' L'=>if t==t'&&e==e' then some [L'=L]else none
  |_=>none
 |x,.lop r s j=>match x with
  | .lop r' s' j'=>match j with
    |none=>match j' with
     |none=>if CU s' s then some [r'=r]else none
     |some _=>none
    |some _=>none
  |_=>none
 |x,.dfr=>match x with
  | .dfr=>some []
  |_=>none
 |_,.mp _ _ _=>none
 |_,.mq _ _=>none
 |x,.ro y=>match x with
  | .ro x=>match y with
    | .yet=>none
    |_=>uo all x y
  |_=>none
def rE (all:List aK):List aK->List aK->Option (List Prop)
 |_,[]=>some []
 |x::l,y::m=>match y with
  | .yet=>rE all l m
  |_=>qp (uo all x y) (rE all l m)
 | [],y::m=>match y with
   | .yet=>rE all [] m
   |_=>none
def sF (res:List aK):List (Nat×List V×List V)->List (Nat×List V×List V)->Option (List Prop)
 | [],[]=>some []
 | (f,a,b)::l,(g,c,d)::m=>if f==g&&mZ res c&&mZ res d then qp (qp (sX a c) (sX b d)) (sF res l m)else none
 |_,_=>none
def aaJ (U τ:St):Option (List Prop):=
 qp (mE τ.res U.slots τ.slots) (qp (rE τ.res U.res τ.res) (sF τ.res U.defs τ.defs))
def Sub (U τ:St):Prop:=
 match aaJ U τ with
 |some l=>jI l
 |none=>False
section
variable {J:Env} {fps:Nat->Nat->Prop} {w0 w:World} {F0:Nat->Prop} {a:Act}
def AO (J:Env) (K:Nat->Prop) (x:Value):S->Prop
 | .und=>True
 | .v b=>x=den J b/\ok K b
 |_=>False
theorem AO.ok {K:Nat->Prop} {sl:List S} {x:Value} {s:S} (h:AO J K x s):g8 J K sl x s:=by
 cases s with
 |und=>trivial
 |v b=>exact h
 |ud=>exact h.elim
 |gv ch b=>exact h.elim
theorem tc {K:Nat->Prop} {res:List aK} {sl0:List S}:∀(l m:List S) (p:List Prop),mE res l m=some p->jI p->l.length=m.length/\
  ∀t x,g8 J K sl0 x (b9 l t)->AO J (known res) x (b9 m t)
 | [],[],_,_,_=>⟨rfl,fun t x _=>by simp[b9,AO]⟩
 | [],_::_,_,h,_=>by simp[mE]at h
 |_::_,[],_,h,_=>by simp[mE]at h
 |x::l,y::m,p,h,hp=>by
  have key:∀(q:List Prop),mE res l m=some q->jI q->(∀z,g8 J K sl0 z x->AO J (known res) z y)->
    (x::l).length=(y::m).length/\∀t z,g8 J K sl0 z (b9 (x::l) t)->AO J (known res) z (b9 (y::m) t):=by
   intro q hq hq' hz;obtain⟨e1,e2⟩:=tc l m q hq hq';refine⟨by simp[e1],fun t z hh=>?_⟩
   cases t with
   |zero=>exact hz z hh
   |succ t=>exact e2 t z hh
  simp only[mE]at h;split at h
  ·exact key p h hp fun _ _=>trivial
  ·rename_i b;split at h
   ·rename_i a';split at h
    ·rename_i hw;obtain⟨u,v,h1,h2,h3,h4⟩:=kP h hp;refine key v h2 h4 fun z hz=>?_
     obtain⟨e1,e2,_⟩:=qT J K a' b u h1 h3;exact⟨hz.1.trans e1,jU b hw (e2 hz.2)⟩
    ·simp at h
   ·simp at h
  ·simp at h
theorem BL {K:Nat->Prop} {all:List aK}:∀(x y:aK) (p:List Prop),uo all x y=some p->jI p->y≠ .yet->x≠ .yet/\∀j fp w0 F0 w,x.holds K J j fp w0 F0 w->y.holds (known all) J j fp w0 F0 w
 |x,.yet,p,h,hp,hy=>absurd rfl hy
 |x,.gone,p,h,hp,hy=>by
  unfold uo at h;split at h
  ·simp at h
  ·rename_i hx;exact⟨hx,fun _ _ _ _ _ _=>trivial⟩
 |x,.blk t c,p,h,hp,hy=>by
  unfold uo at h;split at h
  ·rename_i t' c';split at h
   ·rename_i hc;simp only[aa2,aa4]at hc;obtain⟨rfl,hw⟩:=hc;refine⟨by simp,fun j fp w0 F0 w hh=>?_⟩
    obtain⟨e1,e2,e3⟩:=qT J K c' c p h hp;obtain⟨g1,g2,g3,g4⟩:=hh;exact⟨jU c hw (e2 g1),by rw[<-e3];exact g2,g3,by rw[g4];simp only[cells,e1]⟩
   ·simp at h
  ·simp at h
 |x,.arr o e g,p,h,hp,hy=>by
  unfold uo at h;split at h
  ·rename_i o' e' g';split at h
   ·rename_i hc;simp only[aa2,aa4]at hc;obtain⟨rfl,hc2⟩:=hc;have:=JU h hp;subst this;refine⟨by simp,fun j fp w0 F0 w hh=>?_⟩
    obtain⟨a1,a2,a3,a4,a5,a6,a7⟩:=hh;refine⟨a1,a2,a3,a4,a5,a6,?_⟩;rcases a7 with⟨b1,b2⟩|⟨x,b1,b2⟩
    ·refine .inl ⟨?_,b2⟩;subst b1;cases o with
     |none=>rfl
     |some z=>simp[H2]at hc2
    ·refine .inr ⟨x,fun z hz=>?_,b2⟩
     subst hz;cases o' with
     |none=>simp[H2]at hc2
     |some y=>
      have:=b1 y rfl;simp only[H2,aa4]at hc2;omega
   ·simp at h
  ·simp at h
 |x,.obs t q L,p,h,hp,hy=>by
  unfold uo at h;split at h
  ·split at h
   ·rename_i hc;simp only[aa2,aa4]at hc;obtain⟨⟨rfl,rfl⟩,hkq⟩:=hc;simp only[aa0]at h;subst h;simp only[jI]at hp;subst hp;exact⟨by simp,fun j fp w0 F0 w hh=>⟨cC.1 hkq,hh.2⟩⟩
   ·simp at h
  ·simp at h
 |x,.gen j,p,h,hp,hy=>by
  unfold uo at h;split at h
  ·exact⟨by simp,fun _ _ _ _ _ _=>trivial⟩
  ·simp at h
 |x,.store t e L,p,h,hp,hy=>by
  unfold uo at h;split at h
  ·split at h
   ·rename_i hc;simp only[aa2,aa4]at hc;obtain⟨rfl,rfl⟩:=hc;simp only[aa0]at h;subst h;simp only[jI]at hp;subst hp;exact⟨by simp,fun j fp w0 F0 w hh=>hh⟩
   ·simp at h
  ·simp at h
 |x,.lop r s j,p,h,hp,hy=>by
  unfold uo at h;split at h
  ·split at h
   ·split at h
    ·split at h
     ·rename_i hs;have:=Bs hs;subst this;simp only[aa0]at h;subst h;simp only[jI]at hp;subst hp;exact⟨by simp,fun j fp w0 F0 w hh=>hh⟩
     ·simp at h
    ·simp at h
   ·simp at h
  ·simp at h
 |x,.dfr,p,h,hp,hy=>by
  unfold uo at h;split at h
  ·exact⟨by simp,fun j fp w0 F0 w hh=>hh⟩
  ·simp at h
 |x,.mp _ _ _,p,h,hp,hy=>by simp[uo]at h
 |x,.mq _ _,p,h,hp,hy=>by simp[uo]at h
 |x,.ro y,p,h,hp,hy=>by
  unfold uo at h;split at h
  ·rename_i x';split at h
   ·simp at h
   ·rename_i hyy;obtain⟨e1,e2⟩:=BL x' y p h hp hyy;refine⟨by simp,fun j fp w0 F0 w hh=>?_⟩
    obtain⟨fp',g1,g2⟩:=hh;exact⟨fp',e2 j fp' w0 F0 w0 g1,g2⟩
  ·simp at h
theorem qX {K:Nat->Prop} {all:List aK}:∀(l m:List aK) (p:List Prop),rE all l m=some p->jI p->∀i,known m i->known l i/\
  ∀j fp w0 F0 w,(ay l i).holds K J j fp w0 F0 w->(ay m i).holds (known all) J j fp w0 F0 w
 |_,[],_,_,_,i,hi=>by simp[known,ay]at hi
 | [],y::m,p,h,hp,i,hi=>by
   simp only[rE]at h;split at h
   ·cases i with
    |zero=>simp[known,ay]at hi
    |succ i=>
     obtain⟨h1,h2⟩:=qX (K:=K) [] m p h hp i hi;simp[known,ay]at h1
   ·simp at h
 |x::l,y::m,p,h,hp,i,hi=>by
  have key:∀(q:List Prop),rE all l m=some q->jI q->(y≠ .yet->x≠ .yet/\∀j fp w0 F0 w,x.holds K J j fp w0 F0 w->y.holds (known all) J j fp w0 F0 w)->
    known (x::l) i/\∀j fp w0 F0 w,(ay (x::l) i).holds K J j fp w0 F0 w->(ay (y::m) i).holds (known all) J j fp w0 F0 w:=by
   intro q hq hq' hz;cases i with
   |zero=>exact hz hi
   |succ i=>exact qX l m q hq hq' i hi
  simp only[rE]at h;split at h
  ·exact key p h hp fun hh=>absurd rfl hh
  ·rename_i hy;obtain⟨u,v,h1,h2,h3,h4⟩:=kP h hp;exact key v h2 h4 fun hy'=>BL x y u h1 h3 hy'
theorem OW {a c:List V} {l:List Prop} (h:sX a c=some l):Bh a=Bh c:=by
 match a,c with
 | [],[]=>rfl
 | [],_::_=>simp[sX]at h
 |_::_,[]=>simp[sX]at h
 | [x],[y]=>
   simp only[sX]at h;unfold qp at h;split at h<;>simp only[aa0,reduceCtorEq]at h
   rename_i hx _;unfold Bh
   cases x<;>cases y<;>simp only[xA,reduceCtorEq]at hx<;>first
    |rfl
    | (have hb:=aa4.1 (gk hx).1;subst hb;rfl)
 | [x],y::z::m=>
   simp only[sX,qp]at h;split at h<;>simp_all
 |x::z::m,[y]=>
  simp only[sX,qp]at h;split at h<;>simp_all
 |_::_::_,_::_::_=>rfl
theorem va {K:Nat->Prop} {res:List aK}:∀(l m:List (Nat×List V×List V)) (p:List Prop),sF res l m=some p->jI p->(∀d∈l,fM K d.2.1/\fM K d.2.2)->
  l.flatMap (lO J)=m.flatMap (lO J)/\∀d∈m,fM (known res) d.2.1/\fM (known res) d.2.2
 | [],[],_,_,_,_=>⟨rfl,by simp⟩
 | [],_::_,_,h,_,_=>by simp[sF]at h
 |_::_,[],_,h,_,_=>by simp[sF]at h
 | (f,a,b)::l,(g,c,d)::m,p,h,hp,hk=>by
   simp only[sF]at h;split at h
   ·rename_i hc;simp only[aa2,aa4]at hc;obtain⟨⟨rfl,w1⟩,w2⟩:=hc;obtain⟨u,v,h1,h2,h3,h4⟩:=kP h hp;obtain⟨u1,u2,i1,i2,i3,i4⟩:=kP h1 h3;obtain⟨e1,_,e2,_⟩:=nj J K a c u1 i1 i3;obtain⟨f1,_,f2,_⟩:=nj J K b d u2 i2 i4;obtain⟨g1,g2⟩:=va l m v h2 h4 fun d hd=>hk d (by simp[hd])
    have hk0:=hk (f,a,b) (by simp)
    have hde:lO J (f,a,b)=lO J (f,c,d):=by
     grind[OW,lO,Bh]
    refine⟨by rw[List.flatMap_cons,List.flatMap_cons,hde,g1],fun d' hd'=>?_⟩
    rcases List.mem_cons.1 hd' with rfl|hd'
    ·exact⟨jf _ w1 (e2 hk0.1),jf _ w2 (f2 hk0.2)⟩
    ·exact g2 d' hd'
   ·simp at h
theorem Sub.rep {U τ:St} (h:Sub U τ) (hr:lD J fps U w0 F0 a w):lD J fps τ w0 F0 a w/\∀i,known τ.res i->known U.res i:=by
 unfold Sub at h;split at h
 ·rename_i l hl;obtain⟨u,v,h1,h2,h3,h4⟩:=kP hl h;obtain⟨v1,v2,i1,i2,i3,i4⟩:=kP h2 h4;obtain⟨r1,r2,r3,r4⟩:=hr;obtain⟨s1,s2⟩:=tc (J:=J) (K:=known U.res) (sl0:=U.slots) _ _ u h1 h3;have hres:=fun i hi=>qX (J:=J) (K:=known U.res) _ _ v1 i1 i3 i hi
  obtain⟨d1,d2⟩:=va (J:=J) (K:=known U.res) _ _ v2 i2 i4 r4;refine⟨⟨⟨by rw[<-s1];exact r1.1,fun t=>(s2 t _ (r1.2 t)).ok⟩,?_,by rw[r3,d1],d2⟩,fun i hi=>(hres i hi).1⟩
  have hk:∀i,known τ.res i->known U.res i:=fun i hi=>(hres i hi).1
  exact⟨fun i hi=>hi,r2.old,r2.os,r2.tape,r2.output,fun i hi=>(hres i hi).2 _ _ _ _ _ (r2.holds i (hk i hi)),fun i b hi=>r2.lt i b (hk i hi),
   fun i j b hi hj=>r2.disj i j b (hk i hi) (hk j hj),fun i b hi=>r2.inF i b (hk i hi),r2.same⟩
 ·exact h.elim
end
def Pc:List V->Option (List Obj)
 | []=>some []
 |v::l=>match v with
  | .ob o=>match Pc l with
    |some m=>some (o::m)
    |none=>none
  |_=>none
theorem Bq:∀{l:List V} {L:List Obj},Pc l=some L->l=L.map V.ob
 | [],L,h=>by simp only[Pc,aa0]at h;subst h;rfl
 |v::l,L,h=>by
  simp only[Pc]at h;split at h
  ·split at h<;>simp only[aa0,reduceCtorEq]at h
   rename_i o m hm;subst h;rw[Bq hm];rfl
  ·simp at h
theorem yL (J:Env) (L:List Obj):bp J (L.map V.ob)=(TL.ob L).cells:=by
 unfold TL.cells;rw[B1]
 have h:∀M:List Obj,(M.map V.ob).flatMap (cells J)=(List.range M.length).flatMap fun j=>cells Env.zero (.ob (aj M j free)):=by
  intro M;induction M with
  |nil=>rfl
  |cons o M ih=>
   rw[List.map_cons,List.flatMap_cons,ih,List.length_cons,List.range_succ_eq_map,List.flatMap_cons,List.flatMap_map];congr 1
 exact h L
def Rs (x:V):Option (List Obj):=
 match x with
 | .ag l=>Pc l
 | .ob o=>some [o]
 |_=>none
theorem JK {x:V} {L:List Obj} {N:Nat->Prop} (h:Rs x=some L) (hx:ok N x):(∀J,cells J x=(TL.ob L).cells)/\∀j,j<L.length->(aj L j free).wf:=by
 unfold Rs at h;split at h
 ·have:=Bq h;subst this;refine⟨fun J=>by rw[fB,yL],fun j hj=>?_⟩
  have:=(jg _).1 hx.1 (.ob (L[j])) (by simp)
  have this:(L[j]).wf:=this;simpa[aj,aa7,hj]using this
 ·rename_i o;simp only[aa0]at h;subst h;refine⟨fun J=>?_,fun j hj=>?_⟩
  ·have:=yL J [o];rw[<-this];simp[bp,cells]
  ·have:j=0:=by simp at hj;omega
   subst this;exact hx
 ·simp at h
mutual
def fS (κ:Nat->Option Nat):V->Option V
 | .lp i off=>match κ i with
   |some j=>some (.lp j off)
   |none=>none
 | .lx i off esz n k inner=>match κ i with
   |some j=>some (.lx j off esz n k inner)
   |none=>none
 | .sc i len cap=>match κ i with
   |some j=>some (.sc j len cap)
   |none=>none
 | .so i len=>match κ i with
   |some j=>some (.so j len)
   |none=>none
 | .ap i esz k off=>match κ i with
   |some j=>some (.ap j esz k off)
   |none=>none
 | .sa i=>match κ i with
   |some j=>some (.sa j)
   |none=>none
 | .op i k=>match κ i with
   |some j=>some (.op j k)
   |none=>none
 | .yl i=>match κ i with
   |some j=>some (.yl j)
   |none=>none
 | .mp i=>match κ i with
   |some j=>some (.mp j)
   |none=>none
 | .ch _ _ _ _=>none
 | .ax _ _ _ _ _ _ _ _=>none
 | .bs _ _ _=>none
 | .ks _ _ _ _ _=>none
 | .fn f l=>match eJ κ l with
   |some m=>some (.fn f m)
   |none=>none
 | .ic t x=>match fS κ x with
   |some y=>some (.ic t y)
   |none=>none
 | .ag l=>match eJ κ l with
   |some m=>some (.ag m)
   |none=>none
 | .tp l=>match eJ κ l with
   |some m=>some (.tp m)
   |none=>none
 | .cb b=>some (.cb b)
 | .bo b=>some (.bo b)
 | .ci k n=>some (.ci k n)
 | .it k n=>some (.it k n)
 | .bt b=>some (.bt b)
 | .st s=>some (.st s)
 | .nl v=>some (.nl v)
 | .key k=>some (.key k)
 | .sl s=>some (.sl s)
 | .by b=>some (.by b)
 | .ob o=>some (.ob o)
def eJ (κ:Nat->Option Nat):List V->Option (List V)
 | []=>some []
 |x::l=>match fS κ x with
  |some y=>match eJ κ l with
   |some m=>some (y::m)
   |none=>none
  |none=>none
end
def Env.via (κ:Nat->Option Nat) (J ρ':Env):Prop:=∀p i,κ p=some i->ρ'.num i=J.num p/\ρ'.cap i=J.cap p/\ρ'.adr i=J.adr p/\ρ'.sa i=J.sa p/\ρ'.sn i=J.sn p/\ρ'.ob i=J.ob p
section
variable {κ:Nat->Option Nat} {J ρ':Env} {N N':Nat->Prop}
mutual
theorem kW (hv:Env.via κ J ρ') (hN:∀p i,κ p=some i->N p->N' i):∀v v',fS κ v=some v'->den ρ' v'=den J v/\(ok N v->ok N' v')/\cS v'=cS v
 | .lp i off,v',h=>by
   simp only[fS]at h;split at h<;>simp only[aa0,reduceCtorEq]at h
   rename_i j hj;subst h;exact⟨by simp only[den,(hv i j hj).1],fun hk=>hN i j hj hk,rfl⟩
 | .lx i off esz n k inner,v',h=>by
   simp only[fS]at h;split at h<;>simp only[aa0,reduceCtorEq]at h
   rename_i j hj;subst h;exact⟨by simp only[den,(hv i j hj).1],fun hk=>⟨hN i j hj hk.1,hk.2⟩,rfl⟩
 | .sc i len cap,v',h=>by
   simp only[fS]at h;split at h<;>simp only[aa0,reduceCtorEq]at h
   rename_i j hj;subst h;exact⟨by simp only[den,(hv i j hj).1],fun hk=>hN i j hj hk,rfl⟩
 | .so i len,v',h=>by
   simp only[fS]at h;split at h<;>simp only[aa0,reduceCtorEq]at h
   rename_i j hj;subst h;exact⟨by simp only[den,(hv i j hj).1,(hv i j hj).2.1],fun hk=>hN i j hj hk,rfl⟩
 | .ap i esz k off,v',h=>by
   simp only[fS]at h;split at h<;>simp only[aa0,reduceCtorEq]at h
   rename_i j hj;subst h;exact⟨by simp only[den,(hv i j hj).2.2.1],fun hk=>hN i j hj hk,rfl⟩
 | .sa i,v',h=>by
   simp only[fS]at h;split at h<;>simp only[aa0,reduceCtorEq]at h
   rename_i j hj;subst h;exact⟨by simp only[den,(hv i j hj).2.1,(hv i j hj).2.2.2.1,(hv i j hj).2.2.2.2.1],fun hk=>hN i j hj hk,rfl⟩
 | .yl i,v',h=>by
   simp only[fS]at h;split at h<;>simp only[aa0,reduceCtorEq]at h
   rename_i j hj;subst h;exact⟨by simp only[den,(hv i j hj).1],fun hk=>hN i j hj hk,rfl⟩
 | .mp i,v',h=>by
   simp only[fS]at h;split at h<;>simp only[aa0,reduceCtorEq]at h
   rename_i j hj;subst h;exact⟨by simp only[den,(hv i j hj).1],fun hk=>hN i j hj hk,rfl⟩
 | .ch b f l y,v',h=>by simp[fS]at h
 | .ax _ _ _ _ _ _ _ _,v',h=>by simp[fS]at h
 | .bs _ _ _,v',h=>by simp[fS]at h
 | .ks _ _ _ _ _,v',h=>by simp[fS]at h
 | .op i k,v',h=>by
   simp only[fS]at h;split at h<;>simp only[aa0,reduceCtorEq]at h
   rename_i j hj;subst h;exact⟨by simp only[den,(hv i j hj).2.2.2.2.2],fun hk=>hN i j hj hk,rfl⟩
 | .fn f l,v',h=>by
   simp only[fS]at h;split at h<;>simp only[aa0,reduceCtorEq]at h
   rename_i m hm;subst h;obtain⟨a,_,c,_⟩:=ja hv hN l m hm;exact⟨by simp only[den,a],c,rfl⟩
 | .ic t x,v',h=>by
   simp only[fS]at h;split at h<;>simp only[aa0,reduceCtorEq]at h
   rename_i m hm;subst h;obtain⟨a,c,_⟩:=kW hv hN x m hm;exact⟨by simp only[den,a],c,rfl⟩
 | .ag l,v',h=>by
   simp only[fS]at h;split at h<;>simp only[aa0,reduceCtorEq]at h
   rename_i m hm;subst h;obtain⟨_,b,c,d⟩:=ja hv hN l m hm;exact⟨by simp only[den,b],fun hk=>⟨c hk.1,d hk.2⟩,rfl⟩
 | .tp l,v',h=>by
   simp only[fS]at h;split at h<;>simp only[aa0,reduceCtorEq]at h
   rename_i m hm;subst h;obtain⟨a,_,c,_⟩:=ja hv hN l m hm;exact⟨by simp only[den,a],c,rfl⟩
 | .cb b,v',h| .bo b,v',h| .ci _ b,v',h| .it _ b,v',h| .bt b,v',h| .st b,v',h| .nl b,v',h| .key b,v',h| .sl b,v',h| .by b,v',h| .ob b,v',h=>by
   simp only[fS,aa0]at h;subst h;exact⟨rfl,id,rfl⟩
theorem ja (hv:Env.via κ J ρ') (hN:∀p i,κ p=some i->N p->N' i):∀l l',eJ κ l=some l'->bB ρ' l'=bB J l/\bp ρ' l'=bp J l/\(fM N l->fM N' l')/\(tg l->tg l')
 | [],l',h=>by simp only[eJ,aa0]at h;subst h;exact⟨rfl,rfl,id,id⟩
 |x::l,l',h=>by
  simp only[eJ]at h;split at h
  ·rename_i y hy;split at h<;>simp only[aa0,reduceCtorEq]at h
   rename_i m hm;subst h;obtain⟨a1,a2,a3⟩:=kW hv hN x y hy;obtain⟨b1,b2,b3,b4⟩:=ja hv hN l m hm;refine⟨by simp only[bB,a1,b1],by simp only[bp,a1,b2],fun hk=>⟨a2 hk.1,b3 hk.2⟩,fun hk=>?_⟩
   rw[eF]at hk⊢;intro z hz;rcases List.mem_cons.1 hz with rfl|hz
   ·rw[a3];exact hk x (by simp)
   ·simp_all[eF]
  ·simp at h
end
theorem mY {κ:Nat->Option Nat}:∀{l l':List V},eJ κ l=some l'->l'.length=l.length
 | [],l',h=>by simp only[eJ,aa0]at h;subst h;rfl
 |x::l,l',h=>by
  simp only[eJ]at h;split at h
  ·split at h<;>simp only[aa0,reduceCtorEq]at h
   rename_i m hm;subst h;simp[mY hm]
  ·simp at h
def gp (κ:Nat->Option Nat):aK->aK
 | .yet=> .yet
 | .gone=> .gone
 | .blk ty c=>match fS κ c with
   |some c'=> .blk ty c'
   |none=> .gone
 | .arr o e l=> .arr o e l
 | .obs ty q L=>match κ q with
   |some q'=> .obs ty q' L
   |none=> .gone
 | .gen j=>match κ j with
   |some j'=> .gen j'
   |none=> .gone
 | .store ty e L=> .store ty e L
 | .lop r s j=> .lop r s j
 | .dfr=> .dfr
 | .mp k ks vs=>match eJ κ vs with
   |some vs'=> .mp k ks vs'
   |none=> .gone
 | .mq ks vs=>match eJ κ vs with
   |some vs'=> .mq ks vs'
   |none=> .gone
 | .ro r=> .ro (gp κ r)
theorem mB {r:aK}:gp κ r= .yet↔r= .yet:=by
 cases r<;>simp only[gp]<;>(try split)<;>simp
theorem iO (hv:Env.via κ J ρ') (hN:∀p i,κ p=some i->N p->N' i) {p i:Nat} (hp:κ p=some i) {w0:World} {F0:Nat->Prop}:∀(r:aK) (fp:Nat->Prop) (w:World),r.holds N J p fp w0 F0 w->(gp κ r).holds N' ρ' i fp w0 F0 w
 | .yet,fp,w,h=>trivial
 | .gone,fp,w,h=>trivial
 | .gen j,fp,w,h=>by simp only[gp];split<;>trivial
 | .blk ty c,fp,w,h=>by
   simp only[gp];split
   ·rename_i c' hc;obtain⟨h1,h2,h3,h4⟩:=h;obtain⟨a,b,d⟩:=kW hv hN c c' hc;have e:=(hv p i hp).1;exact⟨b h1,by rw[d];exact h2,by rw[e];exact h3,by rw[e];simp only[cells,a];exact h4⟩
   ·trivial
 | .arr o e l,fp,w,h=>by
   obtain⟨e1,e2,e3,e4,e5,e6⟩:=hv p i hp;obtain⟨h1,h2,h3,h4,h5,h6,h7⟩:=h;have hsl:ρ'.sl i=J.sl p:=by simp only[Env.sl,e2,e4,e5]
   refine⟨h1,by rw[e5];exact h2,h3,by rw[e4,e3];exact h4,by rw[e4];exact h5,by rw[e3];exact h6,?_⟩
   rcases h7 with⟨g1,g2,g3⟩|⟨x,g1,g2,g3⟩
   ·refine .inl ⟨g1,by rw[e3];exact g2,fun j hj k hk=>?_⟩
    rw[e3,g3 j hj k hk,dW (N:=fun _=>False) (J:=J) (ρ':=ρ') (fun _ h=>h.elim) _ (h1 j hj).1]
   ·exact .inr ⟨x,g1,by rw[hsl];exact g2,by rw[e4];exact g3⟩
 | .obs ty q L,fp,w,h=>by
   simp only[gp];split
   ·rename_i q' hq;obtain⟨e1,e2,e3,e4,e5,e6⟩:=hv p i hp;obtain⟨h0,h1,h2,h3,h4,h5,h6,h7⟩:=h;have hsl:ρ'.sl i=J.sl p:=by simp only[Env.sl,e2,e4,e5]
    have eq6:=(hv q q' hq).2.2.2.2.2;exact⟨hN q q' hq h0,h1,by rw[e5];exact h2,h3,by rw[e4,e3];exact h4,by rw[e4];exact h5,by rw[hsl,eq6];exact h6,by rw[eq6];exact h7⟩
   ·trivial
 | .store ty e L,fp,w,h=>by
   have e:=(hv p i hp).1;obtain⟨h0,h1,h2,sl,ob,h3,h5,h6,h7⟩:=h;exact⟨by rw[e];exact h0,h1,h2,sl,ob,by rw[e];exact h3,h5,by rw[e];exact h6,by rw[e];exact h7⟩
 | .lop r s j,fp,w,h=>by
   have e:=(hv p i hp).1;exact⟨by rw[e];exact h.1,by rw[e];exact h.2⟩
 | .dfr,fp,w,h=>by
   have e1:=(hv p i hp).2.2.2.2.1;have e2:=(hv p i hp).2.2.2.2.2;exact⟨fun j hj=>by rw[e1]at hj;rw[e2];exact h.1 j hj,by rw[e1,e2];exact h.2⟩
 | .mp k ks vs,fp,w,h=>by
   simp only[gp];split
   ·rename_i vs' hvs;obtain⟨h0,h1,h2,h3,h4,es,cl,h5,h6,h7⟩:=h;obtain⟨a,_,c,d⟩:=ja hv hN vs vs' hvs;have e:=(hv p i hp).1;exact⟨by rw[e];exact h0,c h1,d h2,h3,by rw[mY hvs];exact h4,es,cl,by rw[e];exact h5,h6,by rw[a];exact h7⟩
   ·trivial
 | .mq ks vs,fp,w,h=>by
   simp only[gp];split
   ·rename_i vs' hvs;obtain⟨h0,h1,h2,h4,es,cl,h5,h7⟩:=h;obtain⟨a,_,c,d⟩:=ja hv hN vs vs' hvs;have e:=(hv p i hp).1;exact⟨by rw[e];exact h0,c h1,d h2,by rw[mY hvs];exact h4,es,cl,by rw[e];exact h5,by rw[a];exact h7⟩
   ·trivial
 | .ro r,fp,w,h=>by
   obtain⟨fp',h1,h2⟩:=h;exact⟨fp',iO hv hN hp r fp' w0 h1,h2⟩
end
def idxOf:List Nat->Nat->Nat->Option Nat
 | [],_,_=>none
 |x::l,n,p=>if x==p then some n else idxOf l (n+1) p
def kX (n:Nat) (l:List Nat) (p:Nat):Option Nat:=if Nat.blt p n then some p else idxOf l n p
def src (n:Nat) (l:List Nat) (i:Nat):Nat:=if i<n then i else l.getD (i-n) i
theorem jd:∀{l:List Nat} {n p i:Nat},idxOf l n p=some i->n<=i/\i<n+l.length/\l[i-n]? =some p
 | [],n,p,i,h=>by simp[idxOf]at h
 |x::l,n,p,i,h=>by
  simp only[idxOf]at h;split at h
  ·simp_all
  ·obtain⟨h1,h2,h3⟩:=jd h;refine⟨by omega,by simp;omega,?_⟩
   rw[show i-n=(i-(n+1))+1 by omega]
   simpa using h3
theorem G6 {n:Nat} {l:List Nat} {p i:Nat} (h:kX n l p=some i):src n l i=p:=by
 unfold kX at h;unfold src;split at h
 ·rename_i hp;simp only[aa0]at h;subst h;rw[aa9 (by simpa using hp)]
 ·obtain⟨h1,h2,h3⟩:=jd h;rw[aa8 (by omega),aa7,h3];rfl
def Env.pull (π:Nat->Nat) (J:Env):Env:= {num:=fun i=>J.num (π i),cap:=fun i=>J.cap (π i),adr:=fun i=>J.adr (π i),sa:=fun i=>J.sa (π i),sn:=fun i=>J.sn (π i),ob:=fun i=>J.ob (π i)}
theorem qF {π:Nat->Nat} {κ:Nat->Option Nat} {J:Env} (h:∀p i,κ p=some i->π i=p):Env.via κ J (J.pull π):=fun p i hp=>by
 have:=h p i hp;simp[Env.pull,this]
def oL (κ:Nat->Option Nat) (all:List aK):Nat->List aK->List aK
 |0,_=> []
 |_+1,[]=> []
 |n+1,r::l=>gp κ r::oL κ all n l
def fZ (κ:Nat->Option Nat) (all:List aK):List Nat->List aK
 | []=> []
 |p::l=>gp κ (ay all p)::fZ κ all l
def p8 (κ:Nat->Option Nat):List S->List S
 | []=> []
 |s::l=>(match s with
  | .v x=>match fS κ x with
    |some y=> .v y
    |none=> .und
  |_=> .und)::p8 κ l
def z8 (κ:Nat->Option Nat):List (Nat×List V×List V)->Option (List (Nat×List V×List V))
 | []=>some []
 | (f,a,b)::l=>match eJ κ a,eJ κ b,z8 κ l with
   |some a',some b',some m=>some ((f,a',b')::m)
   |_,_,_=>none
def nN:List Nat->Nat->Bool
 | [],_=>false
 |x::l,p=>x==p||nN l p
def iD (n m:Nat):List Nat->Bool
 | []=>true
 |p::l=>Nat.ble n p&&Nat.blt p m&& !nN l p&&iD n m l
def Xn (n:Nat) (ext:List Nat) (U:St):Option St:=
 if Nat.ble n U.res.length&&iD n U.res.length ext then
  match z8 (kX n ext) U.defs with
  |some ds=>some {slots:=p8 (kX n ext) U.slots,res:=oL (kX n ext) U.res n U.res++fZ (kX n ext) U.res ext,defs:=ds}
  |none=>none
 else none
theorem wV (κ:Nat->Option Nat) (all:List aK):∀(n:Nat) (l:List aK) (i:Nat),n<=l.length->i<n->ay (oL κ all n l) i=gp κ (ay l i)
 |0,_,i,_,h=>by omega
 |n+1,[],i,h,_=>by simp at h
 |n+1,r::l,0,h,_=>rfl
 |n+1,r::l,i+1,h,hi=>by
  simp_all[oL,ay,wV]
theorem td (κ:Nat->Option Nat) (all:List aK):∀(n:Nat) (l:List aK),n<=l.length->(oL κ all n l).length=n
 |0,_,_=>rfl
 |n+1,[],h=>by simp at h
 |n+1,r::l,h=>by simp[oL,td κ all n l (by simpa using h)]
theorem rh (κ:Nat->Option Nat) (all:List aK):∀(l:List Nat) (k:Nat),ay (fZ κ all l) k=match l[k]? with|some p=>gp κ (ay all p)|none=> .yet
 | [],k=>by simp[fZ,ay]
 |p::l,0=>by simp[fZ,ay]
 |p::l,k+1=>by simp[fZ,ay,rh κ all l k]
theorem HO:∀{l:List Nat} {p:Nat},nN l p=true↔p∈l
 | [],p=>by simp[nN]
 |x::l,p=>by
  simp only[nN,Bool.or_eq_true,aa4,HO (l:=l),List.mem_cons];exact or_congr_left eq_comm
theorem qj {n m:Nat}:∀{l:List Nat},iD n m l=true->(∀p∈l,n<=p/\p<m)/\l.Nodup
 | [],_=>by simp
 |p::l,h=>by
  simp only[iD,aa2,Nat.ble_eq,Nat.blt_eq,Bool.not_eq_true']at h;obtain⟨⟨⟨h1,h2⟩,h3⟩,h4⟩:=h;obtain⟨a,b⟩:=qj h4;refine⟨fun q hq=>?_,List.nodup_cons.2 ⟨fun hp=>?_,b⟩⟩
  ·grind
  ·rw[<-HO]at hp;rw[hp]at h3;simp at h3
theorem qU (κ:Nat->Option Nat):∀l:List S,(p8 κ l).length=l.length
 | []=>rfl
 |s::l=>by simp[p8,qU κ l]
theorem uH (κ:Nat->Option Nat):∀(l:List S) (t:Nat),b9 (p8 κ l) t=match b9 l t with
  | .v x=>(match fS κ x with|some y=> .v y|none=> .und)
  |_=> .und
 | [],t=>by simp[p8,b9]
 |s::l,0=>by cases s<;>rfl
 |s::l,t+1=>by simp only[p8,b9];exact uH κ l t
theorem J6 {κ:Nat->Option Nat} {a a':List V} (h:eJ κ a=some a'):(Bh a=none/\Bh a'=none)\/∃k k',Bh a=some k/\κ k=some k'/\Bh a'=some k':=by
 match a with
 | []=>simp only[eJ,aa0]at h;subst h;exact .inl ⟨rfl,rfl⟩
 | [x]=>
   simp only[eJ]at h;split at h<;>simp only[aa0,reduceCtorEq]at h
   rename_i y hy;subst h
   cases x<;>simp only[fS]at hy<;>(try split at hy)<;>simp only[aa0,reduceCtorEq]at hy<;>subst hy<;>first
    |exact .inl ⟨rfl,rfl⟩
    | (rename_i k _ k' hk;exact .inr ⟨k,k',rfl,hk,rfl⟩)
 |x::z::m=>
  have hl:=mY h;match a',hl with
  | [],hl=>simp at hl
  | [_],hl=>simp at hl
  |_::_::_,_=>exact .inl ⟨rfl,rfl⟩
theorem qC {κ:Nat->Option Nat} {J ρ':Env} {N N':Nat->Prop} (hv:Env.via κ J ρ') (hN:∀p i,κ p=some i->N p->N' i):∀(l m:List (Nat×List V×List V)),z8 κ l=some m->
  m.flatMap (lO ρ')=l.flatMap (lO J)/\((∀d∈l,fM N d.2.1/\fM N d.2.2)->∀d∈m,fM N' d.2.1/\fM N' d.2.2)
 | [],m,h=>by simp only[z8,aa0]at h;subst h;exact⟨rfl,fun _=>by simp⟩
 | (f,a,b)::l,m,h=>by
   simp only[z8]at h;split at h<;>simp only[aa0,reduceCtorEq]at h
   rename_i a' b' m' ha hb hm;subst h;obtain⟨a1,_,a3,_⟩:=ja hv hN a a' ha;obtain⟨b1,_,b3,_⟩:=ja hv hN b b' hb;obtain⟨c1,c2⟩:=qC hv hN l m' hm
   have hde:lO ρ' (f,a',b')=lO J (f,a,b):=by
    unfold lO;rcases J6 ha with⟨h1,h2⟩|⟨k,k',h1,h2,h3⟩
    ·simp only[h1,h2,a1,b1]
    ·simp only[h1,h3,(hv k k' h2).2.2.2.2.1,(hv k k' h2).2.2.2.2.2]
   refine⟨by rw[List.flatMap_cons,List.flatMap_cons,hde,c1],fun hk d hd=>?_⟩
   rcases List.mem_cons.1 hd with rfl|hd
   ·have h0:=hk (f,a,b) (by simp)
    exact⟨a3 h0.1,b3 h0.2⟩
   ·exact c2 (fun d hd=>hk d (by simp[hd])) d hd
theorem N2 {J:Env} {fps:Nat->Nat->Prop} {w0 w:World} {F0:Nat->Prop} {a:Act} {n:Nat} {ext:List Nat} {U σ':St} (h:Xn n ext U=some σ') (hr:lD J fps U w0 F0 a w):
  ∃ρ' fps',lD ρ' fps' σ' w0 F0 a w/\∀i,i<n->ρ'.num i=J.num i/\ρ'.cap i=J.cap i/\ρ'.adr i=J.adr i/\ρ'.sa i=J.sa i/\ρ'.sn i=J.sn i/\ρ'.ob i=J.ob i:=by
 unfold Xn at h;split at h
 ·rename_i hc;simp only[aa2,Nat.ble_eq]at hc;obtain⟨hn,he⟩:=hc;obtain⟨e1,e2⟩:=qj he;split at h<;>simp only[aa0,reduceCtorEq]at h
  rename_i ds hds;subst h;obtain⟨r1,r2,r3,r4⟩:=hr;generalize hκ:kX n ext=κ at *
  have hπ:∀p i,κ p=some i->src n ext i=p:=fun p i hp=>by subst hκ;exact G6 hp
  have hv:Env.via κ J (J.pull (src n ext)):=qF hπ
  have hget:∀i,ay (oL κ U.res n U.res++fZ κ U.res ext) i=if i<n then gp κ (ay U.res i)else match ext[i-n]? with|some p=>gp κ (ay U.res p)|none=> .yet:=fun i=>by
   simp_all[cF,td,wV,rh]
  have hkn:∀i,known (oL κ U.res n U.res++fZ κ U.res ext) i->known U.res (src n ext i)/\κ (src n ext i)=some i/\ay (oL κ U.res n U.res++fZ κ U.res ext) i=gp κ (ay U.res (src n ext i)):=fun i hi=>by
   unfold known at hi;rw[hget]at hi⊢;unfold src;by_cases hin:i<n
   ·rw[aa9 hin]at hi⊢;rw[aa9 hin];refine⟨fun e=>hi (mB.2 e),?_,rfl⟩
    subst hκ;unfold kX;rw[aa9 (by simpa using hin)]
   ·rw[aa8 hin]at hi⊢;rw[aa8 hin,aa7];cases hx:ext[i-n]? with
    |none=>rw[hx]at hi;exact absurd rfl hi
    |some p=>
     rw[hx]at hi;simp only[Option.getD_some];refine⟨fun e=>hi (mB.2 e),?_,trivial⟩
     subst hκ;unfold kX;have hp:=e1 p (List.mem_of_getElem? hx);rw[aa8 (by simp;omega)]
     have:∀(l:List Nat) (m k:Nat),l.Nodup->l[k]? =some p->idxOf l m p=some (m+k):=by
      intro l;induction l with
      |nil=>intro m k _ h;simp at h
      |cons x l ih=>
       intro m k hnd h;simp only[idxOf];cases k with
       |zero=>simp at h;subst h;simp
       |succ k=>
        simp at h
        have hne:(x==p)=false:=by
         grind
        rw[hne];simp only[Bool.false_eq_true,if_false];rw[ih (m+1) k (List.nodup_cons.1 hnd).2 h];congr 1;omega
     rw[this ext n (i-n) e2 hx];congr 1;omega
  have hN:∀p i,κ p=some i->known U.res p->known (oL κ U.res n U.res++fZ κ U.res ext) i:=fun p i hp hk=>by
   unfold known;rw[hget];have hs:=hπ p i hp;unfold src at hs;by_cases hin:i<n
   ·rw[aa9 hin]at hs⊢;subst hs;exact fun e=>hk (mB.1 e)
   ·rw[aa8 hin]at hs⊢;subst hκ;unfold kX at hp;split at hp
    ·simp only[aa0]at hp;rename_i hb;simp at hb;omega
    ·obtain⟨_,_,h3⟩:=jd hp;rw[h3];exact fun e=>hk (mB.1 e)
  refine⟨J.pull (src n ext),fun i=>fps (src n ext i),⟨⟨by simpa[qU]using r1.1,fun t=>?_⟩,?_,?_,?_⟩,fun i hi=>?_⟩
  ·rw[uH];have:=r1.2 t;split
   ·rename_i x hx;rw[hx]at this;split
    ·rename_i y hy;obtain⟨a1,a2,_⟩:=kW hv hN x y hy;exact⟨this.1.trans a1.symm,a2 this.2⟩
    ·trivial
   ·trivial
  ·refine⟨fun i hi=>hi,r2.old,r2.os,r2.tape,r2.output,fun i hi=>?_,fun i b hi=>r2.lt _ b (hkn i hi).1,fun i j b hi hj hne=>r2.disj _ _ b (hkn i hi).1 (hkn j hj).1 fun e=>hne ?_,fun i b hi=>r2.inF _ b (hkn i hi).1,r2.same⟩
   ·obtain⟨a1,a2,a3⟩:=hkn i hi;rw[a3];exact iO hv hN a2 _ _ _ (r2.holds _ a1)
   ·grind
  ·obtain⟨a1,_⟩:=qC hv hN _ _ hds;rw[r3];exact a1.symm
  ·exact(qC hv hN _ _ hds).2 r4
  ·simp[Env.pull,src,hi]
 ·simp at h
inductive Gh where
 |bl (c ty:Nat)
 |bv (c e esz:Nat) (l:TL)
 |sl (t e esz:Nat) (l:TL)
 |al (t:Nat)
 |ab (c:Nat)
 |li (t:Nat)
 |dm
def Fv:TL->Bool
 | .ob l=>match l with| []=>true|_=>false
 | .key l=>match l with| []=>true|_=>false
 | .it _ l=>match l with| []=>true|_=>false
 | .bo l=>match l with| []=>true|_=>false
 | .st l=>match l with| []=>true|_=>false
 | .fn n _=>Nat.beq n 0
theorem E5 {l:TL} (h:Fv l=true):l.len=0/\l.cells= []:=by
 cases l with
 |fn n g=>
  have:=Nat.eq_of_beq_eq_true h;subst this;exact⟨rfl,rfl⟩
 |ob l=>cases l<;>first|exact⟨rfl,rfl⟩|simp[Fv]at h
 |key l=>cases l<;>first|exact⟨rfl,rfl⟩|simp[Fv]at h
 |it k l=>cases l<;>first|exact⟨rfl,rfl⟩|simp[Fv]at h
 |bo l=>cases l<;>first|exact⟨rfl,rfl⟩|simp[Fv]at h
 |st l=>cases l<;>first|exact⟨rfl,rfl⟩|simp[Fv]at h
def asV (v:V):Option (Nat×IntKind×Int):=
 match v with
 | .ag l=>match l with
   | [x,y]=>match x with
     | .sa k=>match y with
       | .it q n=>some (k,q,n)
       |_=>none
     |_=>none
   |_=>none
 |_=>none
theorem Pd {v:V} {k:Nat} {q:IntKind} {n:Int} (h:asV v=some (k,q,n)):v= .ag [.sa k,.it q n]:=by
 unfold asV at h;split at h
 case h_2=>simp at h
 split at h
 case h_2=>simp at h
 split at h
 case h_2=>simp at h
 split at h
 case h_2=>simp at h
 simp only[aa0,aa1]at h;obtain⟨rfl,rfl,rfl⟩:=h;rfl
def GO (U:St):Gh->Option St
 | .bl c ty=>match ay U.res c with
   | .blk t (.ag [.nl (.slice none 0 0)])=>some {U with res:=bO U.res c (.blk t (.ag [.sa U.res.length]))++ [.obs ty (U.res.length+1) [],.gen U.res.length]}
   |_=>none
 | .bv c e esz l=>match ay U.res c with
   | .blk t (.nl (.slice none 0 0))=>if Fv l then some {U with res:=bO U.res c (.blk t (.sa U.res.length))++ [.arr (some e) esz l]}else none
   |_=>none
 | .sl t e esz l=>match b9 U.slots t with
   | .v (.nl (.slice none 0 0))=>if Fv l then some {U with slots:=sset (clean U.slots) t (.v (.sa U.res.length)),res:=U.res++ [.arr (some e) esz l]}else none
   |_=>none
 | .al t=>match b9 U.slots t with
   | .v (.sa k)=>match ay U.res k with
     | .ro r=>match r with
       | .arr _ esz l=>some {U with slots:=sset (clean U.slots) t (.v (.sa U.res.length)),res:=U.res++ [.arr none esz l]}
       |_=>none
     | .arr own esz l=>some {U with slots:=sset (clean U.slots) t (.v (.sa U.res.length)),res:=dE [k] U.res++ [.arr own esz l]}
     |_=>none
   |_=>none
 | .ab c=>match ay U.res c with
   | .blk t v=>match asV v with
     |some (k,q,n)=>match ay U.res k with
      | .ro r=>match r with
        | .arr _ esz l=>some {U with res:=bO U.res c (.blk t (.ag [.sa U.res.length,.it q n]))++ [.arr none esz l]}
        |_=>none
      |_=>none
     |none=>none
   |_=>none
 | .li t=>match b9 U.slots t with
   | .v v=>match v with
     | .sc k n c=>match ay U.res k with
       | .blk e x=>match Rs x with
         |some L=>if n==L.length&&c==n&&Nat.ble n 1000 then some {U with slots:=sset (clean U.slots) t (.v (.sa U.res.length)),res:=dE [k] U.res++ [.arr (some e) 163 (.ob L)]}else none
         |none=>none
       |_=>none
     |_=>none
   |_=>none
 | .dm=>some {U with res:=U.res++ [.dfr],defs:=(0,[.yl U.res.length],[])::U.defs}
def wA:List Gh->St->Option St
 | [],U=>some U
 |g::l,U=>match GO U g with
  |some σ'=>wA l σ'
  |none=>none
def Env.gC (J:Env) (i:Nat):Env:= {J with cap:=fun j=>if j=i then 0 else J.cap j,sa:=fun j=>if j=i then none else J.sa j,sn:=fun j=>if j=i then 0 else J.sn j}
theorem Cm {N:Nat->Prop} {J:Env} {i:Nat} (h:¬N i):Env.bE N J (J.gC i):=fun j hj=>by
 have:j≠i:=fun e=>h (e▸hj)
 simp[Env.gC,this]
def Env.iX (J:Env) (i k:Nat):Env:= {J with cap:=fun j=>if j=i then J.cap k else J.cap j,adr:=fun j=>if j=i then J.adr k else J.adr j,sa:=fun j=>if j=i then J.sa k else J.sa j,sn:=fun j=>if j=i then J.sn k else J.sn j}
theorem qW {N:Nat->Prop} {J:Env} {i k:Nat} (h:¬N i):Env.bE N J (J.iX i k):=fun j hj=>by
 have:j≠i:=fun e=>h (e▸hj)
 simp[Env.iX,this]
theorem KC {K K':Nat->Prop} {J:Env} {i:Nat} {fp fp2:Nat->Prop} {w0 w:World} {F0:Nat->Prop} {own:Option Nat} {esz:Nat} {l:TL} (h:(aK.ro (.arr own esz l)).holds K J i fp w0 F0 w):(aK.arr none esz l).holds K' J i fp2 w0 F0 w:=by
 obtain⟨fp',⟨h1,h2,h3,h4,h5,h6,h7⟩,hf⟩:=h;refine⟨h1,h2,h3,h4,h5,h6,.inl ⟨rfl,?_⟩⟩;rcases h7 with⟨_,h7⟩|⟨e,_,e2,e3⟩
 ·exact h7
 ·refine⟨fun hl=>?_,fun j hj k hk=>?_⟩
  ·grind[la]
  ·obtain⟨g,f1,f2,f3,f4⟩:=la e2 (by omega)
   have ha:=h4 _ f1;rw[<-ha];simp only[Nat.zero_add]
   have hlt:j*esz+k<l.len*esz:=by
    have:(j+1)*esz<=l.len*esz:=Nat.mul_le_mul_right _ hj;rw[Nat.succ_mul]at this;omega
   rw[f4 _ hlt];unfold TL.cells;rw[vQ (esz:=esz) (fun j hj=>by rw[bg Env.zero _ (h1 j hj).1];exact(h1 j hj).2.2) hj hk]
   rw[dW (N:=fun _=>False) (J:=J) (ρ':=Env.zero) (fun _ h=>h.elim) _ (h1 j hj).1]
theorem Oz {K K':Nat->Prop} {J:Env} {i k:Nat} {w0 w:World} {F0:Nat->Prop} {esz:Nat} {l:TL} (h:(aK.arr none esz l).holds K J k (fun _=>False) w0 F0 w):(aK.arr none esz l).holds K' (J.iX i k) i (fun _=>False) w0 F0 w:=by
 obtain⟨a1,a2,a3,a4,a5,a6,a7⟩:=h;have e1:(J.iX i k).adr i=J.adr k:=by simp[Env.iX]
 have e2:(J.iX i k).sa i=J.sa k:=by simp[Env.iX]
 have e3:(J.iX i k).sn i=J.sn k:=by simp[Env.iX]
 refine⟨a1,by rw[e3];exact a2,a3,by rw[e1,e2];exact a4,by rw[e2];exact a5,by rw[e1];exact a6,?_⟩
 rcases a7 with⟨_,b1,b2⟩|⟨e,_,_,b3⟩
 ·refine .inl ⟨rfl,by rw[e1];exact b1,fun j hj x hx=>?_⟩
  rw[e1,b2 j hj x hx,dW (N:=fun _=>False) (J:=J) (ρ':=J.iX i k) (fun _ h=>h.elim) _ (a1 j hj).1]
 ·by_cases hl:0<l.len
  ·have:=a5 hl;cases hs:J.sa k with
   |none=>rw[hs]at this;simp at this
   |some x=>exact(b3 x hs).elim
  ·exact .inl ⟨rfl,fun h=>absurd h hl,fun j hj=>absurd (Nat.lt_of_le_of_lt (Nat.zero_le _) hj) hl⟩
theorem S1 {J:Env} {fps:Nat->Nat->Prop} {w0:World} {F0:Nat->Prop} {w:World} {res:List aK} {k esz:Nat} {own:Option Nat} {l:TL} (h:bq J fps res (known res) w0 F0 w) (hrk:ay res k= .arr own esz l):
  ∃fps',bq (J.iX res.length k) fps' (dE [k] res++ [.arr own esz l]) (known (dE [k] res++ [.arr own esz l])) w0 F0 w/\Env.bE (known res) J (J.iX res.length k)/\(∀i,known res i->known (dE [k] res++ [.arr own esz l]) i)/\known (dE [k] res++ [.arr own esz l]) res.length:=by
 have hkk:known res k:=by unfold known;rw[hrk];simp
 have hn:¬known res res.length:=by
  simp_all[known,m8]
 have hh:=h.holds k hkk;rw[hrk]at hh;obtain⟨a1,a2,a3,a4,a5,a6,a7⟩:=hh;have e1:(J.iX res.length k).adr res.length=J.adr k:=by simp[Env.iX]
 have e2:(J.iX res.length k).sa res.length=J.sa k:=by simp[Env.iX]
 have e3:(J.iX res.length k).sn res.length=J.sn k:=by simp[Env.iX]
 have e4:(J.iX res.length k).sl res.length=J.sl k:=by simp[Env.iX,Env.sl]
 refine h.zX [k] (.arr own esz l) [] (fps k) (by simp) (by simpa using hkk) (by simp) (qW hn) ?_ (fun b hb=> .inl ⟨k,by simp,hb⟩) rfl rfl rfl (Nat.le_refl _) (fun b _ _=>rfl)
 refine⟨a1,by rw[e3];exact a2,a3,by rw[e1,e2];exact a4,by rw[e2];exact a5,by rw[e1];exact a6,?_⟩
 rcases a7 with⟨b0,b1,b2⟩|⟨e,b1,b2,b3⟩
 ·refine .inl ⟨b0,by rw[e1];exact b1,fun j hj x hx=>?_⟩
  rw[e1,b2 j hj x hx,dW (N:=fun _=>False) (J:=J) (ρ':=J.iX res.length k) (fun _ h=>h.elim) _ (a1 j hj).1]
 ·exact .inr ⟨e,b1,by rw[e4];exact b2,by rw[e2];exact b3⟩
theorem tD {J:Env} {i:Nat}:den (J.gC i) (.sa i)= .slice none 0 0:=by simp[den,Env.gC]
section
variable {J:Env} {fps:Nat->Nat->Prop} {w0 w:World} {F0:Nat->Prop} {a:Act}
theorem bq.beside {res:List aK} (h:bq J fps res (known res) w0 F0 w) {ρ':Env} (hag:Env.bE (known res) J ρ') (res1 new:List aK) (hl:res1.length=res.length)
  (h1:∀i,i<res.length->ay res1 i=ay res i\/(known res i/\known res1 i/\(ay res1 i).holds (known (res1++new)) ρ' i (fps i) w0 F0 w))
  (h2:∀k,k<new.length->(ay new k).holds (known (res1++new)) ρ' (res.length+k) (fun _=>False) w0 F0 w):
  ∃fps',bq ρ' fps' (res1++new) (known (res1++new)) w0 F0 w/\Env.bE (known res) J ρ'/\∀i,known res i->known (res1++new) i:=by
 have hget:∀i,ay (res1++new) i=if i<res.length then ay res1 i else ay new (i-res.length):=fun i=>by rw[cF,hl]
 have hmono:∀i,known res i->known (res1++new) i:=fun i hi=>by
  grind[aO,known]
 obtain⟨fps',g⟩:=h.turn (res':=res1++new) (K':=known (res1++new)) (fun i=>known res i/\known res1 i/\(ay res1 i).holds (known (res1++new)) ρ' i (fps i) w0 F0 w)
  (fun i=>(known res i/\known res1 i/\(ay res1 i).holds (known (res1++new)) ρ' i (fps i) w0 F0 w)\/res.length<=i) (fun i b=>i<res.length/\fps i b/\known res i) (fun i hi=>hi) hmono hag
  (fun i hi hb=>by
   have hlt:i<res.length:=by
    rcases Nat.lt_or_ge i res.length with h|h
    ·exact h
    ·exact absurd (.inr h) hb
   have hno:=fun h=>hb (.inl h)
   rcases h1 i hlt with e|e
   ·have e2:ay (res1++new) i=ay res i:=by rw[hget,aa9 hlt,e]
    exact⟨by unfold known at hi⊢;rw[e2]at hi;exact hi,hno,e2⟩
   ·exact absurd e hno)
  (fun i hi hb=>by
   by_cases hlt:i<res.length
   ·rcases hb with⟨b1,b2,b3⟩|hb
    ·refine⟨?_,fun b hf=> .inl ⟨i,⟨b1,b2,b3⟩,b1,hf.2.1⟩⟩
     rw[hget,aa9 hlt];have:(fun b=>i<res.length/\fps i b/\known res i)=fps i:=by funext b;simp[hlt,b1]
     rw[this];exact b3
    ·omega
   ·refine⟨?_,fun b hf=>absurd hf.1 hlt⟩
    rw[hget,aa8 hlt];have:(fun b=>i<res.length/\fps i b/\known res i)=fun _=>False:=by funext b;simp[hlt]
    rw[this]
    have hk:i-res.length<new.length:=by
     unfold known at hi;rw[hget,aa8 hlt]at hi;exact aO hi
    have:=h2 (i-res.length) hk;rw[show res.length+(i-res.length)=i by omega]at this
    exact this)
  (fun i j b _ _ hne hf hf'=>h.disj i j b hf.2.2 hf'.2.2 hne hf.2.1 hf'.2.1) rfl rfl rfl (Nat.le_refl _) (fun _ _ _=>rfl)
 exact⟨fps',g,hag,hmono⟩
theorem Qq {res:List aK} {k n e:Nat} {x:V} {L:List Obj} (hH:bq J fps res (known res) w0 F0 w) (hr:ay res k= .blk e x) (hl:Rs x=some L) (hn:n=L.length) (hs:n<=1000):
  ∃fps',bq (J.g9 res.length (some ⟨J.num k,0,none⟩) n n) fps' (dE [k] res++ [.arr (some e) 163 (.ob L)]) (known (dE [k] res++ [.arr (some e) 163 (.ob L)])) w0 F0 w/\Env.bE (known res) J (J.g9 res.length (some ⟨J.num k,0,none⟩) n n)/\
   (∀i,known res i->known (dE [k] res++ [.arr (some e) 163 (.ob L)]) i)/\known (dE [k] res++ [.arr (some e) 163 (.ob L)]) res.length:=by
 have hk:known res k:=by unfold known;rw[hr];simp
 have hh:=hH.holds k hk;rw[hr]at hh;obtain⟨h1,_,h3,h4⟩:=hh;obtain⟨hcells,hwf⟩:=JK hl h1;have hcells:=hcells J;have hnk:¬known res res.length:=fun hk=>by have:=aO hk;omega
 have hlen:(TL.ob L).cells.length=n*163:=by
  unfold TL.cells;rw[hn]
  exact uu fun j hj=>by
   rw[show(TL.ob L).get j=V.ob (aj L j free)from rfl,jQ];exact nD _
 have hag:=vv (N:=known res) J (i:=res.length) (a:=some ⟨J.num k,0,none⟩) (n:=n) (cap:=n) hnk
 exact hH.zX (ρ':=J.g9 res.length (some ⟨J.num k,0,none⟩) n n) (w':=w) [k] (.arr (some e) 163 (.ob L)) [] (fun x=>x=J.num k) (by simp) (by simpa using hk) (by simp) hag
  (by
   refine⟨fun j hj=>⟨hwf j hj,rfl,rfl⟩,by simp[Env.g9,TL.len,hn,ai],by simp only[TL.len,ai];omega,fun a ha=>by simp[Env.g9]at ha⊢;exact ha.symm,fun _=>by simp[Env.g9],fun _=>by simp[Env.g9],.inr ⟨e,fun e' he=>by simpa using he.symm,?_,fun a ha=>by simp[Env.g9]at ha;rw[<-ha]⟩⟩
   rw[show(J.g9 res.length (some ⟨J.num k,0,none⟩) n n).sl res.length= .slice (some ⟨J.num k,0,none⟩) n n by simp[Env.sl,Env.g9]]
   rw[hcells]at h4;refine⟨by rw[hlen,hn];rfl,.inr ⟨_,_,_,by rw[hn];rfl,Nat.zero_le _,h4,by rw[show(TL.ob L).len=L.length from rfl];exact Nat.le_refl _,by simp only[maxLen];rw[<-hn];omega,by rw[<-hn];simpa using hlen,?_⟩⟩
   have hh:(TL.ob L).len*163=n*163:=by rw[hn];rfl
   rw[hh];exact List.take_of_length_le (by simpa using Nat.le_of_eq hlen))
  (fun x hx=> .inl ⟨k,by simp,by rw[hx];exact h3⟩) rfl rfl rfl (Nat.le_refl _) (fun _ _ _=>rfl)
theorem G0 {U σ':St} {g:Gh} (h:GO U g=some σ') (hr:lD J fps U w0 F0 a w):∃ρ' fps',lD ρ' fps' σ' w0 F0 a w/\Good J U.res ρ' σ'.res:=by
 have hnk:¬known U.res U.res.length:=fun hk=>by have:=aO hk;omega
 have hag:Env.bE (known U.res) J (J.gC U.res.length):=Cm hnk;have hr0:=hr;obtain⟨r1,r2,r3,r4⟩:=hr;have cell1:∀(l:List V),bp (J.gC U.res.length) l=bp (J.gC U.res.length) l:=fun _=>rfl
 unfold GO at h;split at h
 ·rename_i c ty;split at h<;>simp only[aa0,reduceCtorEq]at h
  rename_i t hc;subst h;have hkc:known U.res c:=by unfold known;rw[hc];simp
  have hlt:=aO hkc;have hh:=r2.holds c hkc;rw[hc]at hh;obtain⟨_,_,h3,h4⟩:=hh
  have hkn:known (bO U.res c (.blk t (.ag [.sa U.res.length]))++ [.obs ty (U.res.length+1) [],.gen U.res.length]) U.res.length:=by
   simp_all[known,cF,cE,ay]
  have hkn':known (bO U.res c (.blk t (.ag [.sa U.res.length]))++ [.obs ty (U.res.length+1) [],.gen U.res.length]) (U.res.length+1):=by
   unfold known;rw[cF,cE,aa8 (by omega),show U.res.length+1-U.res.length=1 by omega];simp[ay]
  obtain⟨fps',g1,g2,g3⟩:=r2.beside hag (bO U.res c (.blk t (.ag [.sa U.res.length]))) [.obs ty (U.res.length+1) [],.gen U.res.length] (cE _ _ _)
   (fun i hi=>by
    rw[bK _ _ _ _ hlt];by_cases e:i=c
    ·subst e;refine .inr ⟨hkc,by unfold known;rw[bK _ _ _ _ hlt];simp,?_⟩
     simp only[if_true];refine⟨⟨⟨hkn,trivial⟩,trivial,trivial⟩,rfl,by rw[(hag i hkc).1];exact h3,?_⟩
     rw[(hag i hkc).1,h4];rw[fB,fB];simp only[bp,tD];rfl
    ·exact .inl (by rw[aa8 e]))
   (fun k hk=>by
    have:k=0\/k=1:=by simp at hk;omega
    rcases this with rfl|rfl
    ·simp only[Nat.add_zero];refine⟨hkn',by simp,by simp[Env.gC],by simp,by simp[Env.gC],by simp,?_,by simp⟩
     have:(J.gC U.res.length).sl U.res.length= .slice none 0 0:=by simp[Env.sl,Env.gC]
     rw[this];exact World.ownsRow_nil w 0 ty 1
    ·trivial)
  obtain⟨d1,d2⟩:=fC r4 g2 g3;exact⟨_,fps',⟨r1.env g3 g2,g1,by rw[r3];exact d1.symm,d2⟩,g2,g3⟩
 ·rename_i c e esz l;split at h
  ·rename_i t hc;split at h<;>simp only[aa0,reduceCtorEq]at h
   rename_i hl;obtain⟨l1,l2⟩:=E5 hl;subst h;have hkc:known U.res c:=by unfold known;rw[hc];simp
   have hlt:=aO hkc;have hh:=r2.holds c hkc;rw[hc]at hh;obtain⟨_,_,h3,h4⟩:=hh
   have hkn:known (bO U.res c (.blk t (.sa U.res.length))++ [.arr (some e) esz l]) U.res.length:=by
    simp_all[known,cF,cE,ay]
   obtain⟨fps',g1,g2,g3⟩:=r2.beside hag (bO U.res c (.blk t (.sa U.res.length))) [.arr (some e) esz l] (cE _ _ _)
    (fun i hi=>by
     rw[bK _ _ _ _ hlt];by_cases e:i=c
     ·subst e;refine .inr ⟨hkc,by unfold known;rw[bK _ _ _ _ hlt];simp,?_⟩
      simp only[if_true];refine⟨hkn,rfl,by rw[(hag i hkc).1];exact h3,?_⟩
      rw[(hag i hkc).1,h4];simp only[cells,tD];rfl
     ·exact .inl (by rw[aa8 e]))
    (fun k hk=>by
     have:k=0:=by simp at hk;omega
     subst this;simp only[Nat.add_zero];have hs:(J.gC U.res.length).sl U.res.length= .slice none 0 0:=by simp[Env.sl,Env.gC]
     refine⟨fun j hj=>by omega,by simp[Env.gC,l1],by omega,by simp[Env.gC],fun hj=>by omega,fun hj=>by omega,.inr ⟨e,by simp,?_,by simp[Env.gC]⟩⟩
     rw[hs,l1,l2];exact World.ownsRow_nil w 0 e esz)
   obtain⟨d1,d2⟩:=fC r4 g2 g3;exact⟨_,fps',⟨r1.env g3 g2,g1,by rw[r3];exact d1.symm,d2⟩,g2,g3⟩
  ·simp at h
 ·rename_i t e esz l;split at h
  ·rename_i ht;split at h<;>simp only[aa0,reduceCtorEq]at h
   rename_i hl;obtain⟨l1,l2⟩:=E5 hl;subst h
   have hkn:known (U.res++ [.arr (some e) esz l]) U.res.length:=by
    unfold known;rw[cF,aa8 (by omega)];simp[ay]
   obtain⟨fps',g1,g2,g3⟩:=r2.beside hag U.res [.arr (some e) esz l] rfl (fun i _=> .inl rfl)
    (fun k hk=>by
     have:k=0:=by simp at hk;omega
     subst this;simp only[Nat.add_zero];have hs:(J.gC U.res.length).sl U.res.length= .slice none 0 0:=by simp[Env.sl,Env.gC]
     refine⟨fun j hj=>by omega,by simp[Env.gC,l1],by omega,by simp[Env.gC],fun hj=>by omega,fun hj=>by omega,.inr ⟨e,by simp,?_,by simp[Env.gC]⟩⟩
     rw[hs,l1,l2];exact World.ownsRow_nil w 0 e esz)
   obtain⟨d1,d2⟩:=fC r4 g2 g3;refine⟨_,fps',⟨⟨by rw[ia,j9];exact r1.1,fun u=>?_⟩,g1,by rw[r3];exact d1.symm,d2⟩,g2,g3⟩
   have hc:=(r1.clean.env g3 g2).2 u;rw[gI];by_cases e:u=t/\t<(clean U.slots).length
   ·rw[aa9 e];obtain⟨rfl,_⟩:=e;have:=r1.2 u;rw[ht]at this;refine⟨?_,hkn⟩;rw[this.1,tD];rfl
   ·rw[aa8 e];rw[kT]at hc⊢;cases hs:b9 U.slots u<;>rw[hs]at hc<;>exact hc
  ·simp at h
 ·rename_i t;split at h
  case h_2=>simp at h
  rename_i k ht;split at h
  case h_3=>simp at h
  case h_2=>
   rename_i own esz l hrk;simp only[aa0]at h;subst h;obtain⟨fps',g1,g2,g3,g4⟩:=S1 r2 hrk;obtain⟨d1,d2⟩:=fC r4 g2 g3;refine⟨_,fps',⟨⟨by rw[ia,j9];exact r1.1,fun u=>?_⟩,g1,by rw[r3];exact d1.symm,d2⟩,g2,g3⟩
   have hc:=(r1.clean.env g3 g2).2 u;rw[gI];by_cases e:u=t/\t<(clean U.slots).length
   ·rw[aa9 e];obtain⟨rfl,_⟩:=e;have:=r1.2 u;rw[ht]at this;refine⟨?_,g4⟩;rw[this.1];simp[den,Env.iX]
   ·rw[aa8 e];rw[kT]at hc⊢;cases hs:b9 U.slots u<;>rw[hs]at hc<;>exact hc
  rename_i r hrk;split at h
  case h_2=>simp at h
  rename_i own esz l;simp only[aa0]at h;subst h;have hkk:known U.res k:=by unfold known;rw[hrk];simp
  have hkl:=aO hkk;have hne:k≠U.res.length:=by omega
  have hag:Env.bE (known U.res) J (J.iX U.res.length k):=qW hnk
  have hkn:known (U.res++ [.arr none esz l]) U.res.length:=by
   unfold known;rw[cF,aa8 (by omega)];simp[ay]
  have hro:=r2.holds k hkk;rw[hrk]at hro
  obtain⟨fps',g1,g2,g3⟩:=r2.beside hag U.res [.arr none esz l] rfl (fun i _=> .inl rfl)
   (fun m hm=>by
    have:m=0:=by simp at hm;omega
    subst this;exact Oz (KC (K':=fun _=>True) (fp2:=fun _=>False) hro))
  obtain⟨d1,d2⟩:=fC r4 g2 g3;refine⟨_,fps',⟨⟨by rw[ia,j9];exact r1.1,fun u=>?_⟩,g1,by rw[r3];exact d1.symm,d2⟩,g2,g3⟩
  have hc:=(r1.clean.env g3 g2).2 u;rw[gI];by_cases e:u=t/\t<(clean U.slots).length
  ·rw[aa9 e];obtain⟨rfl,_⟩:=e;have:=r1.2 u;rw[ht]at this;refine⟨?_,hkn⟩;rw[this.1];simp[den,Env.iX]
  ·rw[aa8 e];rw[kT]at hc⊢;cases hs:b9 U.slots u<;>rw[hs]at hc<;>exact hc
 ·rename_i c;split at h
  case h_2=>simp at h
  rename_i t v hc;split at h
  case h_2=>simp at h
  rename_i k q n hv;have hv:=Pd hv;subst hv;split at h
  case h_2=>simp at h
  rename_i r hrk;split at h
  case h_2=>simp at h
  rename_i own esz l;simp only[aa0]at h;subst h;have hkk:known U.res k:=by unfold known;rw[hrk];simp
  have hkc:known U.res c:=by unfold known;rw[hc];simp
  have hlt:=aO hkc;have hag:Env.bE (known U.res) J (J.iX U.res.length k):=qW hnk
  have hkn:known (bO U.res c (.blk t (.ag [.sa U.res.length,.it q n]))++ [.arr none esz l]) U.res.length:=by
   unfold known;rw[cF,cE,aa8 (by omega)];simp[ay]
  have hro:=r2.holds k hkk;rw[hrk]at hro;have hh:=r2.holds c hkc;rw[hc]at hh;obtain⟨b1,b2,b3,b4⟩:=hh
  obtain⟨fps',g1,g2,g3⟩:=r2.beside hag (bO U.res c (.blk t (.ag [.sa U.res.length,.it q n]))) [.arr none esz l] (cE _ _ _)
   (fun i hi=>by
    rw[bK _ _ _ _ hlt];by_cases e:i=c
    ·subst e;refine .inr ⟨hkc,by unfold known;rw[bK _ _ _ _ hlt];simp,?_⟩
     simp only[if_true];refine⟨⟨⟨hkn,b1.1.2.1,trivial⟩,b1.2⟩,b2,by rw[(hag i hkc).1];exact b3,?_⟩
     rw[(hag i hkc).1,b4,fB,fB];simp[bp,cells,den,Env.iX]
    ·exact .inl (by rw[aa8 e]))
   (fun m hm=>by
    have:m=0:=by simp at hm;omega
    subst this;exact Oz (KC (K':=fun _=>True) (fp2:=fun _=>False) hro))
  obtain⟨d1,d2⟩:=fC r4 g2 g3;exact⟨_,fps',⟨r1.env g3 g2,g1,by rw[r3];exact d1.symm,d2⟩,g2,g3⟩
 ·rename_i t;split at h
  case h_2=>simp at h
  rename_i v ht;split at h
  case h_2=>simp at h
  rename_i k n c;split at h
  case h_2=>simp at h
  rename_i e x hrk;split at h
  case h_2=>simp at h
  rename_i L hL;split at h
  case isFalse=>simp at h
  rename_i hb;simp only[aa2,aa4,Nat.ble_eq]at hb;obtain⟨⟨hn,rfl⟩,hle⟩:=hb;simp only[aa0]at h;subst h;obtain⟨fps',g1,g2,g3,g4⟩:=Qq r2 hrk hL hn hle;obtain⟨d1,d2⟩:=fC r4 g2 g3;refine⟨_,fps',⟨⟨by rw[ia,j9];exact r1.1,fun u=>?_⟩,g1,by rw[r3];exact d1.symm,d2⟩,g2,g3⟩
  have hc:=(r1.clean.env g3 g2).2 u;rw[gI];by_cases e:u=t/\t<(clean U.slots).length
  ·rw[aa9 e];obtain⟨rfl,_⟩:=e;have:=r1.2 u;rw[ht]at this;refine⟨?_,g4⟩;rw[this.1];simp[den,Env.g9]
  ·rw[aa8 e];rw[kT]at hc⊢;cases hs:b9 U.slots u<;>rw[hs]at hc<;>exact hc
 ·simp only[aa0]at h;subst h
  obtain⟨fps',g1,g2,g3⟩:=r2.beside hag U.res [.dfr] rfl (fun i hi=> .inl rfl) (fun k hk=>by
   simp only[List.length_singleton,Nat.lt_one_iff]at hk;subst hk;refine⟨fun j hj=>?_,fun j k hj=>?_⟩
   ·simp[Env.gC]at hj
   ·simp[Env.gC]at hj)
  obtain⟨d1,d2⟩:=fC r4 g2 g3;refine⟨_,fps',⟨r1.env g3 g2,g1,?_,fun d hd=>?_⟩,g2,g3⟩
  ·rw[List.flatMap_cons,d1,r3];simp[lO,Bh,Env.gC]
  ·rcases List.mem_cons.1 hd with rfl|hd
   ·refine⟨⟨?_,trivial⟩,trivial⟩;show known (U.res++ [.dfr]) U.res.length
    unfold known;rw[cF,aa8 (by omega)]
    simp[ay]
   ·exact d2 d hd
def Env.yN (J:Env) (i p q:Nat):Env:= {J with sn:=fun j=>if j=i then J.sn p+J.sn q else J.sn j,ob:=fun j=>if j=i then fun x=>if x<J.sn p then J.ob p x else J.ob q (x-J.sn p)else J.ob j}
def Gt (n:Nat) (U:St):Option St:=
 match U.defs with
 |d1::l=>match l with
  |d2::rest=>match Bh d1.2.1 with
   |some p=>match Bh d2.2.1 with
    |some q=>match ay U.res p with
     | .dfr=>match ay U.res q with
       | .dfr=>if p==q||Nat.blt U.res.length n then none else some {U with defs:=(0,[.yl U.res.length],[])::rest,res:=dE [p,q] U.res++ [.dfr]}
       |_=>none
     |_=>none
    |none=>none
   |none=>none
  | []=>none
 | []=>none
def Eg (n:Nat):Nat->St->Option St
 |0,U=>some U
 |k+1,U=>match Gt n U with
  |some s=>Eg n k s
  |none=>none
theorem GK {α:Type} (f g h:Nat->α) (m k:Nat) (h1:∀j,j<m->f j=g j) (h2:∀j,j<k->f (m+j)=h j):(List.range (m+k)).map f=(List.range m).map g++(List.range k).map h:=by
 induction k with
 |zero=>simp only[Nat.add_zero,List.range_zero,List.map_nil,List.append_nil];exact List.map_congr_left fun j hj=>h1 j (List.mem_range.1 hj)
 |succ k ih=>
  rw[<-Nat.add_assoc,List.range_succ,List.range_succ,List.map_append,List.map_append,ih fun j hj=>h2 j (by omega),List.append_assoc]
  simp[h2 k (by omega)]
theorem GJ {n:Nat} {U σ':St} (h:Gt n U=some σ') (hr:lD J fps U w0 F0 a w):∃ρ' fps',lD ρ' fps' σ' w0 F0 a w/\Env.bE (fun i=>i<n) J ρ':=by
 obtain⟨r1,r2,r3,r4⟩:=hr;unfold Gt at h;split at h
 case h_2=>simp at h
 rename_i d1 l hd;split at h
 case h_2=>simp at h
 rename_i d2 rest;split at h
 case h_2=>simp at h
 rename_i p hp;split at h
 case h_2=>simp at h
 rename_i q hq;split at h
 case h_2=>simp at h
 rename_i hrp;split at h
 case h_2=>simp at h
 rename_i hrq;split at h
 case isTrue=>simp at h
 rename_i hc;simp only[aa0]at h;subst h;simp only[Bool.or_eq_true,aa4,not_or]at hc;obtain⟨hpq,hn⟩:=hc
 have hn:n<=U.res.length:=by
  simp_all
 have hkp:known U.res p:=by unfold known;rw[hrp];simp
 have hkq:known U.res q:=by unfold known;rw[hrq];simp
 have hlp:=aO hkp;have hlq:=aO hkq;have hP:=r2.holds p hkp;have hQ:=r2.holds q hkq;rw[hrp]at hP;rw[hrq]at hQ;obtain⟨P1,P2⟩:=hP;obtain⟨Q1,Q2⟩:=hQ
 have hag:Env.bE (fun i=>i<U.res.length) J (J.yN U.res.length p q):=fun i hi=>by
  grind[Env.yN]
 have hagk:Env.bE (known U.res) J (J.yN U.res.length p q):=hag.mono fun i hi=>aO hi
 obtain⟨fps',g1,g2,g3,g4⟩:=r2.zX (w':=w) (ρ':=J.yN U.res.length p q) [p,q] .dfr [] (fun b=>fps p b\/fps q b) (by simp) (fun t ht=>by
   rcases List.mem_cons.1 ht with rfl|ht
   ·exact hkp
   ·simp at ht;subst ht;exact hkq) (by simp) hagk
  (by
   refine⟨fun j hj=>?_,fun j k hj hk e=>?_⟩
   ·simp only[Env.yN,if_true]at hj⊢;by_cases hjp:j<J.sn p
    ·rw[aa9 hjp];exact⟨.inl (P1 j hjp).1,(P1 j hjp).2⟩
    ·rw[aa8 hjp];exact⟨.inr (Q1 _ (by omega)).1,(Q1 _ (by omega)).2⟩
   ·simp only[Env.yN,if_true]at hj hk e;by_cases hjp:j<J.sn p<;>by_cases hkp':k<J.sn p
    ·rw[aa9 hjp,aa9 hkp']at e;exact P2 j k hjp hkp' e
    ·rw[aa9 hjp,aa8 hkp']at e;exact absurd (by rw[e];exact(Q1 _ (by omega)).1) (r2.disj p q _ hkp hkq hpq (P1 j hjp).1)
    ·rw[aa8 hjp,aa9 hkp']at e;exact absurd (by rw[<-e];exact(Q1 _ (by omega)).1) (r2.disj p q _ hkp hkq hpq (P1 k hkp').1)
    ·rw[aa8 hjp,aa8 hkp']at e;have:=Q2 _ _ (by omega) (by omega) e
     omega)
  (fun b hb=> .inl (hb.elim (fun h=>⟨p,by simp,h⟩) fun h=>⟨q,by simp,h⟩)) rfl rfl rfl (Nat.le_refl _) (fun _ _ _=>rfl)
 have hl:∀d∈rest,fM (known U.res) d.2.1/\fM (known U.res) d.2.2:=fun d hd'=>r4 d (by rw[hd];simp[hd'])
 obtain⟨e1,e2⟩:=fC hl hagk g3;refine⟨_,fps',⟨r1.env g3 hagk,g1,?_,fun d hd'=>?_⟩,hag.mono fun i hi=>by omega⟩
 ·rw[r3,hd];simp only[List.flatMap_cons];rw[e1,<-List.append_assoc];congr 1
  unfold lO;rw[hp,hq];simp only[Bh];simp only[Env.yN,if_true];exact(GK _ _ _ _ _ (fun j hj=>by rw[aa9 hj]) fun j hj=>by rw[aa8 (by omega),show J.sn p+j-J.sn p=j by omega]).symm
 ·rcases List.mem_cons.1 hd' with rfl|hd'
  ·exact⟨⟨g4,trivial⟩,trivial⟩
  ·exact e2 d hd'
theorem Bf {n:Nat}:∀{k:Nat} {U σ':St} {J:Env} {fps:Nat->Nat->Prop},Eg n k U=some σ'->lD J fps U w0 F0 a w->∃ρ' fps',lD ρ' fps' σ' w0 F0 a w/\Env.bE (fun i=>i<n) J ρ'
 |0,U,σ',J,fps,h,hr=>by simp only[Eg,aa0]at h;subst h;exact⟨J,fps,hr,Env.bE.refl _ _⟩
 |k+1,U,σ',J,fps,h,hr=>by
  simp only[Eg]at h;split at h
  ·rename_i s hs;obtain⟨ρ1,fps1,g1,g2⟩:=GJ hs hr;obtain⟨ρ2,fps2,g3,g4⟩:=Bf h g1;exact⟨ρ2,fps2,g3,g2.trans g4 fun i hi=>hi⟩
  ·simp at h
theorem tZ:∀{l:List Gh} {U σ':St} {J:Env} {fps:Nat->Nat->Prop},wA l U=some σ'->lD J fps U w0 F0 a w->∃ρ' fps',lD ρ' fps' σ' w0 F0 a w/\Good J U.res ρ' σ'.res
 | [],U,σ',J,fps,h,hr=>by simp only[wA,aa0]at h;subst h;exact⟨J,fps,hr,Good.refl _ _⟩
 |g::l,U,σ',J,fps,h,hr=>by
  simp only[wA]at h;split at h
  ·rename_i σ1 h1;obtain⟨ρ1,fps1,g1,g2⟩:=G0 h1 hr;obtain⟨ρ2,fps2,g3,g4⟩:=tZ h g1;exact⟨ρ2,fps2,g3,g2.trans g4⟩
  ·simp at h
end
end Go.Sx
