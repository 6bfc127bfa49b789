import Derived.Test.YtlblcfaclmpekaaGreatSxC
import Derived.TacticsIn
import Derived.OrdersIn
import Derived.RangeFuncLeaves
import Derived.RangeFuncRecord
set_option linter.unusedSimpArgs false
set_option linter.unusedVariables false
namespace Go.Sx
open Go.RowKit (Below)
structure St where
 slots:List S
 res:List aC
 defs:List (Nat×List V×List V)
def yJ:List V->Option Nat
 | [x]=>match x with
   | .yl k=>some k
   |_=>none
 |_=>none
def j5 (J:Env) (d:Nat×List V×List V):List Deferred:=
 match yJ d.2.1 with
 |some k=>(List.range (J.sn k)).map fun j=> {target:= .collected (J.ob k j),args:= #[]}
 |none=> [{target:= .fn (.func d.1) (bj J d.2.2).toArray,args:=(bj J d.2.1).toArray}]
theorem Lo {l:List V} {k:Nat} (h:yJ l=some k):l= [.yl k]:=by
 unfold yJ at h;split at h
 ·split at h
  ·simp only[VI]at h;subst h;rfl
  ·simp at h
 ·simp at h
def jS (J:Env) (fps:Nat->Nat->Prop) (U:St) (w0:World) (F0:Nat->Prop) (a:Act) (w:World):Prop:=
 gL J (known U.res) U.slots a/\ba J fps U.res (known U.res) w0 F0 w/\a.defers=U.defs.flatMap (j5 J)/\∀d∈U.defs,eH (known U.res) d.2.1/\eH (known U.res) d.2.2
def Good (J:Env) (res:List aC) (ρ':Env) (res':List aC):Prop:=Env.bg (known res) J ρ'/\∀i,known res i->known res' i
theorem Good.refl (J:Env) (res:List aC):Good J res J res:=⟨Env.bg.refl _ _,fun _ h=>h⟩
theorem Good.trans {J ρ' ρ'':Env} {r r' r'':List aC} (h:Good J r ρ' r') (h':Good ρ' r' ρ'' r''):Good J r ρ'' r'':=
 ⟨h.1.trans h'.1 h.2,fun i hi=>h'.2 i (h.2 i hi)⟩
theorem eC {J ρ':Env} {K K':Nat->Prop} {l:List (Nat×List V×List V)} (hl:∀d∈l,eH K d.2.1/\eH K d.2.2) (ha:Env.bg K J ρ') (hK:∀i,K i->K' i):
  l.flatMap (j5 ρ')=l.flatMap (j5 J)/\∀d∈l,eH K' d.2.1/\eH K' d.2.2:=
 ⟨by
  rw[List.flatMap_def,List.flatMap_def];refine congrArg _ (List.map_congr_left fun d hd=>?_)
  ·
   unfold j5;cases hm:yJ d.2.1 with
   |none=>simp only[eU ha _ (hl d hd).1,eU ha _ (hl d hd).2]
   |some k=>
    have h1:=(hl d hd).1;rw[Lo hm]at h1;simp only[(ha k h1.1).2.2.2.2.1,(ha k h1.1).2.2.2.2.2],fun d hd=>⟨b9 hK _ (hl d hd).1,b9 hK _ (hl d hd).2⟩⟩
def ak (P:Program) (f:Nat) (args:List V) (res:List aC) (K:V->List aC->Prop) (KP:V->List aC->Prop):Prop:=
 ∀J fps w0 F0 w,ba J fps res (known res) w0 F0 w->eH (known res) args->
  CallsIn (FF P none) 0 P f (bj J args).toArray w fun e w'=>∃x ρ' fps' res',ba ρ' fps' res' (known res') w0 F0 w'/\Good J res ρ' res'/\ok (known res') x/\
   ((e= .returned (den ρ' x)/\K x res')\/(e= .panicked [{v:=den ρ' x,recovered:=false}]/\KP x res'))
abbrev Handler:=Nat->List V->List aC->(V->List aC->Prop)->(V->List aC->Prop)->Prop
def Handler.OK (P:Program) (H:Handler):Prop:=∀f args res K KP,H f args res K KP->ak P f args res K KP
def mQ (res new:List aC):List aC:=
 match new with
 | []=>res
 |r::l=>res++(r::l)
theorem pX (res new:List aC):mQ res new=res++new:=by cases new<;>simp[mQ]
def KB (d:Nat):S->Bool
 | .gv ch _=> !named d ch
 |_=>true
def mU (sl:List S) (dst:Option Nat) (s:S):Option (List S):=
 match dst with
 |none=>some sl
 |some d=>if wC d sl&&KB d s then some (sset sl d s)else none
def A4:List S->Nat->S->(List S->Prop)->Prop
 | [],_,_,k=>k []
 |_::l,0,y,k=>k (y::l)
 |x::l,n+1,y,k=>A4 l n y fun l'=>k (x::l')
theorem xi:∀(l:List S) (n:Nat) (y:S) (k:List S->Prop),A4 l n y k=k (sset l n y)
 | [],_,_,_=>rfl
 |_::_,0,_,_=>rfl
 |_::l,n+1,y,k=>by simp only[A4,sset];exact xi l n y _
def oh (sl:List S) (dst:Option Nat) (s:S) (k:List S->Prop):Prop:=
 match dst with
 |none=>k sl
 |some d=>if wC d sl&&KB d s then A4 sl d s k else False
theorem j4 (sl:List S) (dst:Option Nat) (s:S) (k:List S->Prop):oh sl dst s k=match mU sl dst s with|some l=>k l|none=>False:=by
 unfold oh mU;cases dst with
 |none=>rfl
 |some d=>
  simp only;split
  ·rw[xi]
  ·rfl
def vF:List S->(List S->Prop)->Prop
 | [],k=>k []
 |x::l,k=>match x with
  | .und=>vF l fun l'=>k (.und::l')
  | .ud=>vF l fun l'=>k (.ud::l')
  | .v y=>vF l fun l'=>k (.v y::l')
  | .gv c y=>vF l fun l'=>k (.gv c y::l')
theorem rM:∀(l:List S) (k:List S->Prop),vF l k=k l
 | [],_=>rfl
 |x::l,k=>by cases x<;>simp only[vF]<;>exact rM l _
def kU:List S->(List S->Prop)->Prop
 | [],k=>k []
 |x::l,k=>match x with
  | .v y=>kU l fun l'=>k (.v y::l')
  |_=>kU l fun l'=>k (.und::l')
theorem jA:∀(l:List S) (k:List S->Prop),kU l k=k (clean l)
 | [],_=>rfl
 |x::l,k=>by cases x<;>simp only[kU,clean]<;>exact jA l _
def nZ (P:Program) (res:List aC) (t:Nat) (p y:V):Option (List aC):=
 if m9 P t==some (dP y)&& !bO y then
  match p with
  | .lp id off=>match ar res id with
    | .blk ty c=>(setAt 8 c off y).map fun c'=>bw res id (.blk ty c')
    |_=>none
  | .lx id off esz n i inner=>match ar res id with
    | .blk ty c=>(Eb c off esz n i inner y).map fun c'=>bw res id (.blk ty c')
    |_=>none
  |_=>none
 else none
def TF (v:V) (z j:Nat):Option V:=
 match v with
 | .ks x z' n lo hi=>match x with
   | .lp id off=>if z==z'&&Nat.blt j (hi-lo)then some (.lp id (off+(lo+j)*z))else none
   |_=>none
 | .sc id len _=>if Nat.blt j len then some (.lp id (j*z))else none
 |_=>none
def T8:V->Option Nat
 | .ks x _ _ lo hi=>if FY x then some (hi-lo)else none
 | .sc _ len _=>some len
 |_=>none
def Ts (C:Ctx) (res:List aC) (t z:Nat) (v:V):Nat->Nat->Option (List V)
 |_,0=>some []
 |j,m+1=>match TF v z j with
  |some p=>match wD C res t p with
   |some r=>match r.1 with
    |none=>match Ts C res t z v (j+1) m with
     |some l=>some (r.2::l)
     |none=>none
    |some _=>none
   |none=>none
  |none=>none
def Sp (P:Program) (t z:Nat) (v:V):Nat->List V->List aC->Option (List aC)
 |_,[],res=>some res
 |j,y::l,res=>match TF v z j with
  |some p=>match nZ P res t p y with
   |some res'=>Sp P t z v (j+1) l res'
   |none=>none
  |none=>none
def Vp (C:Ctx) (res:List aC) (ts:List Nat) (xs:List V):Option (V×List aC):=
 match ts,xs with
 | [t,_],[d,s]=>match C.P.underlying t with
   |some (.slice e)=>match m9 C.P e,kr C.P e,T8 d,T8 s with
    |some z,some a,some n,some m=>if a&&cj .i64 ((Nat.min m n:Nat):Int)then match Ts C res e z s 0 (Nat.min m n)with
     |some l=>match Sp C.P e z d 0 l res with
      |some res'=>some (.ci .i64 ((Nat.min m n:Nat):Int),res')
      |none=>none
     |none=>none
     else none
    |_,_,_,_=>none
   |_=>none
 |_,_=>none
def Ux (C:Ctx) (res:List aC) (ts:List Nat) (xs:List V):Option (V×List aC):=
 match Uh C res ts xs with
 |some r=>some r
 |none=>Vp C res ts xs
abbrev cK:=Nat->List V->List aC->(V->List aC->Prop)->(V->List aC->Prop)->Prop
def Uw:cK:=fun _ _ _ _ _=>False
theorem Qb {N:Nat->Prop} {g:Nat} {vs caps:List V} (h1:eH N vs) (h2:eH N caps):eH N (Nh g vs caps):=by
 unfold Nh;rw[fZ]at h1 h2;split<;>rw[fZ]<;>intro z hz<;>rcases List.mem_append.1 hz with hz|hz<;>first|exact h1 z hz|exact h2 z hz
def CA (C:Ctx) (H:Handler) (vs:List V) (res:List aC) (K KP:V->List aC->Prop):V->Prop
 | .fn g caps=>gg C.P (Ck g)=true/\H (Ck g) (Nh g vs caps) res K KP
 | .ch b g caps y=>(b=true->gg C.P (Ck g)=true/\H (Ck g) (Nh g vs caps) res K KP)/\(b=false->CA C H vs res K KP y)
 |_=>False
theorem uC {C:Ctx} {H:Handler} {vs:List V} {res:List aC} {K KP:V->List aC->Prop} {J:Env} {N:Nat->Prop}:∀fv,CA C H vs res K KP fv->ok N fv->
  ∃g caps,den J fv=Cj g (bj J caps)/\eH N caps/\gg C.P (Ck g)=true/\H (Ck g) (Nh g vs caps) res K KP
 | .fn g caps,h,hk=>⟨g,caps,rfl,hk,h.1,h.2⟩
 | .ch b g caps y,h,hk=>by
   cases b
   ·obtain⟨g',caps',e⟩:=uC (J:=J) y (h.2 rfl) hk.2.1;exact⟨g',caps',e⟩
   ·exact⟨g,caps,rfl,hk.1,(h.1 rfl).1,(h.1 rfl).2⟩
 | .cb _,h,_| .bo _,h,_| .ci _ _,h,_| .it _ _,h,_| .bt _,h,_| .st _,h,_| .nl _,h,_| .lp _ _,h,_| .lx _ _ _ _ _ _,h,_| .sc _ _ _,h,_| .so _ _,h,_| .ap _ _ _ _,h,_| .sa _,h,_| .op _ _,h,_| .yl _,h,_| .ic _ _,h,_| .ag _,h,_| .tp _,h,_
 | .key _,h,_| .sl _,h,_| .by _,h,_| .ob _,h,_| .mp _,h,_| .ax _ _ _ _ _ _ _ _,h,_| .bs _ _ _,h,_| .ks _ _ _ _ _,h,_=>h.elim
def ME (C:Ctx) (H:Handler) (Y:cK) (U:St) (ch:List (Nat×Bool)) (o:Oper) (K:St->Prop) (KP:V->St->Prop):Prop:=
 match o.op with
 | .store t p x=>match dY U.slots ch p,dY U.slots ch x,o.dst with
   |some pv,some xv,none=>match nZ C.P U.res t pv xv with
    |some res'=>K {U with res:=res'}
    |none=>match Cu C.P U.res t pv xv with
     |some (q,res')=>A3 q (K {U with res:=res'})
     |none=>False
   |_,_,_=>False
 | .insert t m k x=>match dY U.slots ch m,dY U.slots ch k,dY U.slots ch x,o.dst with
   |some mv,some kv,some xv,none=>match OH C.P U.res t mv kv xv with
    |some res'=>K {U with res:=res'}
    |none=>match Ma C.P U.res t mv kv xv with
     |some res'=>K {U with res:=res'}
     |none=>False
   |_,_,_,_=>False
 | .panic x=>match dY U.slots ch x with
   |some (.ic t y)=>KP (.ic t y) {U with slots:=clean U.slots}
   |_=>False
 | .call c=>match c.callee with
   | .value f=>match dY U.slots ch f,kW U.slots ch c.args.toList with
     |some (.fn g caps),some vs=>gg C.P (Ck g)=true/\H (Ck g) (Nh g vs caps) U.res
      (fun x res'=>oh U.slots o.dst (.v x) fun sl=>K {U with slots:=sl,res:=res'})
      (fun x res'=>KP x {U with slots:=clean U.slots,res:=res'})
     |some (.ch b g caps y),some vs=>CA C H vs U.res
      (fun x res'=>oh U.slots o.dst (.v x) fun sl=>K {U with slots:=sl,res:=res'})
      (fun x res'=>KP x {U with slots:=clean U.slots,res:=res'}) (.ch b g caps y)
     |some (.yl k),some vs=>Y k vs U.res
      (fun x res'=>oh U.slots o.dst (.v x) fun sl=>K {U with slots:=sl,res:=res'})
      (fun x res'=>KP x {U with slots:=clean U.slots,res:=res'})
     |_,_=>False
   | .builtin .append=>match c.argTypes.toList,kW U.slots ch c.args.toList with
     | [t,t'],some [x,y]=>if t==t' then match Ru C U.res t x y with
       |some (q,v,res')=>A3 q (oh U.slots o.dst (.v v) fun sl=>K {U with slots:=sl,res:=res'})
       |none=>False
       else False
     |_,_=>False
   | .builtin .copy=>match kW U.slots ch c.args.toList with
     |some vs=>match Ux C U.res c.argTypes.toList vs with
      |some (v,res')=>oh U.slots o.dst (.v v) fun sl=>K {U with slots:=sl,res:=res'}
      |none=>False
     |none=>False
   | .builtin .clear=>match kW U.slots ch c.args.toList with
     |some vs=>match Pq C U.res c.argTypes.toList vs with
      |some res'=>oh U.slots o.dst (.v (.tp [])) fun sl=>K {U with slots:=sl,res:=res'}
      |none=>False
     |none=>False
   |_=>False
 | .defer c=>match c.callee,o.dst with
   | .value f,none=>match dY U.slots ch f,kW U.slots ch c.args.toList with
     |some (.fn g caps),some vs=>match yJ vs with
      |none=>if Nat.blt g 2000 then K {U with defs:=(g,vs,caps)::U.defs}else False
      |some _=>False
     |_,_=>False
   |_,_=>False
 |_=>False
def uN:List (Nat×Bool)->Nat->Option Bool
 | [],_=>none
 | (s,w)::c,i=>if s==i then some w else uN c i
def zn (ch:List (Nat×Bool)) (i:Nat) (s:S):S:=
 match s with
 | .v y=>match y with
   | .bo b=>match uN ch i with
     |some w=> .v (.cb w)
     |none=> .v (.bo b)
   |y=> .v y
 | .gv c y=>if E5 c ch then match y with
   | .bo b=>match uN ch i with
     |some w=> .v (.cb w)
     |none=> .v (.bo b)
   |y=> .v y
   else .gv c y
 |s=>s
def EI (ch:List (Nat×Bool)):Nat->List S->List S
 |_,[]=> []
 |i,s::l=>zn ch i s::EI ch (i+1) l
def fixF (t:Nat) (w:Bool) (i:Nat) (s:S):S:=
 match s with
 | .v y=>match y with
   | .bo b=>if i==t then .v (.cb (!w))else .v (.bo b)
   |y=> .v y
 | .gv c _=>if EM c t w then .ud else .und
 |s=>s
def A8 (t:Nat) (w:Bool):Nat->List S->List S
 |_,[]=> []
 |i,s::l=>fixF t w i s::A8 t w (i+1) l
def Tx (ch:List (Nat×Bool)) (l:List S):List S:=
 match ch with
 | [(t,w)]=>match bF l t with
   | .v (.bo _)=>A8 t w 0 l
   |_=>l
 |_=>l
def wh (C:Ctx) (H:Handler) (Y:cK) (ops:List Oper) (o:Oper) (U:St) (K:St->Prop) (KP:V->St->Prop):Prop:=
 if TP C.P U.slots o then match p5 U.slots ops o.guard with
 |none=>False
 |some none=>oh U.slots o.dst .ud fun sl=>K {U with slots:=sl}
 |some (some ch)=>match Ag C U.slots U.res U.res.length ch o.op with
  |some (q,x,new)=>
   if ch.isEmpty then
    oh U.slots o.dst (.v x) fun sl=>A3 q (K {U with slots:=sl,res:=mQ U.res new})
   else if new.isEmpty then
    oh U.slots o.dst (.gv ch x) fun sl=>Rd (lz U.slots ch) q (K {U with slots:=sl})
   else(lz U.slots ch=true->oh U.slots o.dst (.v x) fun sl=>A3 q (K {U with slots:=sl,res:=mQ U.res new}))/\(lz U.slots ch=false->oh U.slots o.dst .ud fun sl=>K {U with slots:=sl})
  |none=>if ch.isEmpty then ME C H Y U ch o K KP else(lz U.slots ch=true->vF (EI ch 0 U.slots) fun sl=>ME C H Y {U with slots:=sl} [] o K KP)/\(lz U.slots ch=false->vF (Tx ch U.slots) fun sl=>oh sl o.dst .ud fun sl=>K {U with slots:=sl})
 else False
section
variable {C:Ctx} {J:Env} {fps:Nat->Nat->Prop} {w0 w:World} {F0:Nat->Prop} {a:Act}
theorem gL.mU {K:Nat->Prop} {sl sl':List S} {dst:Option Nat} {s:S} {x:Value} (h:gL J K sl a) (hp:mU sl dst s=some sl')
  (hs:∀d,dst=some d->wC d sl=true->(∀ch y,s= .gv ch y->named d ch=false)->fF J K (sset sl d s) x s):gL J K sl' (a.put dst x):=by
 unfold Sx.mU at hp;cases dst with
 |none=>simp only[VI]at hp;subst hp;exact h
 |some d=>
  simp only at hp;split at hp
  ·rename_i hc;simp only[VI]at hp;simp only[VK]at hc;subst hp;refine h.put hc.1 (hs d rfl hc.1 fun ch y e=>?_)
   subst e;simpa[KB]using hc.2
  ·simp at hp
theorem put_defers (a:Act) (dst:Option Nat) (v:Value):(a.put dst v).defers=a.defers:=by cases dst<;>rfl
theorem gj (w:World) (g:Nat) (cs cs':Array Value) (t:Nat) (h:w.heap[g]? =some (.cells cs t (0,0))):(w.setRow g cs').heap[g]? =some (.cells cs' t (0,0)):=by
 exact setRow_heap w g cs cs' t (0,0) h
theorem wV {P:Program} {res res':List aC} {K:Nat->Prop} {t:Nat} {p y:V} (h:ba J fps res K w0 F0 w) (hs:nZ P res t p y=some res') (hp:ok K p) (hy:ok K y):
  ∃b off ty cs cs',den J p= .pointer (some ⟨b,off,none⟩)/\w.heap[b]? =some (.cells cs ty (0,0))/\(∀w1:World,w1.heap[b]? =some (.cells cs ty (0,0))->(Instr.storeAt t (den J p) (den J y)).run P w1= .ok () (w1.setRow b cs'))/\ba J fps res' K w0 F0 (w.setRow b cs')/\∀i,known res' i↔known res i:=by
 unfold nZ at hs;split at hs
 ·rename_i hc;simp only[VK,VM,Bool.not_eq_true']at hc;obtain⟨hsz,hty⟩:=hc
  have fin:∀id ty c c' off,ar res id= .blk ty c->DV K J c c' off y->den J p= .pointer (some ⟨J.num id,off,none⟩)->
    ∃b off ty' cs cs',den J p= .pointer (some ⟨b,off,none⟩)/\w.heap[b]? =some (.cells cs ty' (0,0))/\(∀w1:World,w1.heap[b]? =some (.cells cs ty' (0,0))->(Instr.storeAt t (den J p) (den J y)).run P w1= .ok () (w1.setRow b cs'))/\ba J fps (bw res id (.blk ty c')) K w0 F0 (w.setRow b cs')/\∀i,known (bw res id (.blk ty c')) i↔known res i:=by
   intro id ty c c' off hr hput hdp;have hk:known res id:=by unfold known;rw[hr];simp
   have hh:=h.holds id hk;rw[hr]at hh;obtain⟨h1,h2,h3,h4⟩:=hh;refine⟨J.num id,off,ty,(cells J c).toArray,(cells J c').toArray,hdp,h4,fun w1 hw1=>?_,h.write hr hput.2.2.1 hput.2.2.2 rfl rfl rfl (by simp[World.setRow]) (gj w _ _ _ _ h4) fun b hb=>setRow_other w _ _ b hb,fun i=>?_⟩
   ·have hst:=wb (P:=P) (t:=t) w1 hy hty hsz hw1 hput;rw[hdp];simp only[Instr.storeAt,Instr.sureAddr,Sem.run_bind,Sem.run_pure,Result.andThen_ok];exact hst
   ·unfold known;rw[bq _ _ _ _ (aG hk)];by_cases e:i=id
    ·subst e;simp[hr]
    ·simp[e]
  split at hs
  ·rename_i id off;split at hs
   ·rename_i ty c hr;cases hset:setAt 8 c off y with
    |none=>simp[hset]at hs
    |some c'=>
     simp only[hset,Option.map_some,VI]at hs;subst hs;have hh:=h.holds id (by unfold known;rw[hr];simp)
     rw[hr]at hh;exact fin id ty c c' off hr (fT J y hy hty 8 c off c' hh.1 hh.2.1 hset) rfl
   ·simp at hs
  ·rename_i id off esz n i inner;split at hs
   ·rename_i ty c hr;cases hset:Eb c off esz n i inner y with
    |none=>simp[hset]at hs
    |some c'=>
     simp only[hset,Option.map_some,VI]at hs;subst hs;have hh:=h.holds id (by unfold known;rw[hr];simp)
     rw[hr]at hh;exact fin id ty c c' _ hr (Dh J hh.1 hh.2.1 hp.2 hy hty hset) rfl
   ·simp at hs
  ·simp at hs
 ·simp at hs
theorem oP {P:Program} {res res':List aC} {K:Nat->Prop} {t:Nat} {p y:V} (h:ba J fps res K w0 F0 w) (hs:nZ P res t p y=some res') (hp:ok K p) (hy:ok K y):
  ∃w',(Instr.storeAt t (den J p) (den J y)).run P w= .ok () w'/\ba J fps res' K w0 F0 w'/\∀i,known res' i↔known res i:=by
 obtain⟨b,off,ty,cs,cs',h1,h2,h3,h4,h5⟩:=wV h hs hp hy;exact⟨_,h3 w h2,h4,h5⟩
theorem EN {J:Env} {v:V} {n:Nat} (h:T8 v=some n):∃a cap,den J v= .slice (some a) n cap:=by
 unfold T8 at h;split at h
 ·split at h<;>simp only[VI,reduceCtorEq]at h
  rename_i hx;subst h;obtain⟨b,o,hd⟩:=sd (J:=J) hx;simp only[den,um,hd];exact⟨_,_,rfl⟩
 ·simp only[VI]at h;subst h;exact⟨_,_,rfl⟩
 ·simp at h
theorem DI {J:Env} {K:Nat->Prop} {v p:V} {z j n cap:Nat} {a:Addr} (h:TF v z j=some p) (hk:ok K v) (hd:den J v= .slice (some a) n cap):a.spot=none/\den J p= .pointer (some (a.add (j*z)))/\ok K p:=by
 unfold TF at h;split at h
 ·rename_i x z' n' lo hi;split at h
  case h_2=>simp at h
  rename_i id off;split at h<;>simp only[VI,reduceCtorEq]at h
  rename_i hc;simp only[VK,VM,Nat.blt_eq]at hc;obtain⟨rfl,hj⟩:=hc;subst h;obtain⟨hk1,hk2,hk3⟩:=hk;simp only[den,um]at hd⊢;rw[VQ (by omega),add_lit]at hd
  simp only[Value.slice.injEq,VI]at hd;obtain⟨rfl,h2,h3⟩:=hd;rw[add_lit];exact⟨rfl,by simp only[Nat.add_mul,Nat.add_assoc],hk1⟩
 ·split at h<;>simp only[VI,reduceCtorEq]at h
  subst h;simp only[den,Value.slice.injEq,VI]at hd;obtain⟨rfl,h2,h3⟩:=hd;refine⟨rfl,?_,hk⟩;simp only[den];rw[add_lit,Nat.zero_add]
 ·simp at h
theorem add_add {a:Addr} (h:a.spot=none) (i j:Nat):(a.add i).add j=a.add (i+j):=by
 obtain⟨b,o,s⟩:=a;simp only at h;subst h;rw[add_lit,add_lit,add_lit,Nat.add_assoc]
theorem xD {a:Addr} (h:a.spot=none) (k:Nat):∀(n i:Nat) (acc:Array Value),loadCellsFrom (a.add k) i n acc=loadCellsFrom a (k+i) n acc
 |0,i,acc=>rfl
 |n+1,i,acc=>by
  simp only[loadCellsFrom,add_add h];congr 1
  funext v
  exact xD h k n (i+1) (acc.push v)
theorem Ed {P:Program} {a:Addr} {w:World}:∀(n i:Nat) (acc ys:Array Value) (w':World),(loadCellsFrom a i n acc).run P w= .ok ys w'->w'=w/\∃xs,ys=acc++xs/\∀acc',(loadCellsFrom a i n acc').run P w= .ok (acc'++xs) w
 |0,i,acc,ys,w',h=>by
  simp only[loadCellsFrom,Sem.run_pure,Result.ok.injEq]at h;obtain⟨rfl,rfl⟩:=h;exact⟨rfl, #[],by simp,fun acc'=>by simp[loadCellsFrom]⟩
 |n+1,i,acc,ys,w',h=>by
  simp only[loadCellsFrom,Sem.run_bind]at h;cases hv:(load (a.add i)).run P w with
  |halt x w1=>rw[hv]at h;simp[Result.andThen]at h
  |ok v w1=>
   have hw:w1=w:=by
    rw[run_load]at hv;split at hv
    ·simp only[Result.ok.injEq]at hv;exact hv.2.symm
    ·split at hv<;>simp only[Result.ok.injEq,reduceCtorEq]at hv
     exact hv.2.symm
   subst hw;rw[hv]at h;simp only[Result.andThen_ok]at h;obtain⟨rfl,xs,rfl,h3⟩:=Ed n (i+1) _ _ _ h;refine⟨rfl, #[v]++xs,by apply Array.ext';simp,fun acc'=>?_⟩
   simp only[loadCellsFrom,Sem.run_bind,hv,Result.andThen_ok,h3];congr 1
   apply Array.ext'
   simp
theorem EX {P:Program} {a:Addr}:∀(p q i:Nat) (acc:Array Value) (w:World),(loadCellsFrom a i (p+q) acc).run P w=((loadCellsFrom a i p acc).run P w).andThen fun acc' w'=>(loadCellsFrom a (i+p) q acc').run P w'
 |0,q,i,acc,w=>by simp[loadCellsFrom]
 |p+1,q,i,acc,w=>by
  rw[show p+1+q=(p+q)+1 by omega]
  simp only[loadCellsFrom,Sem.run_bind];cases hv:(load (a.add i)).run P w with
  |halt x w1=>simp[Result.andThen]
  |ok v w1=>
   simp only[Result.andThen_ok];rw[EX p q (i+1),show i+1+p=i+(p+1) by omega]
theorem A7 {C:Ctx} {res:List aC} {K:Nat->Prop} {t z:Nat} {v:V} {a:Addr} {len cap:Nat} (h:ba J fps res K w0 F0 w) (ht:kr C.P t=some true) (hz:m9 C.P t=some z) (hk:ok K v) (hd:den J v= .slice (some a) len cap):
  ∀(m j:Nat) (l:List V),Ts C res t z v j m=some l->(∀acc,(loadCellsFrom a (j*z) (m*z) acc).run C.P w= .ok (acc++(aZ J l).toArray) w)/\eH K l/\qB l
 |0,j,l,hl=>by
  simp only[Ts,VI]at hl;subst hl;exact⟨fun acc=>by simp[loadCellsFrom,aZ],trivial,trivial⟩
 |m+1,j,l,hl=>by
  simp only[Ts]at hl;split at hl
  case h_2=>simp at hl
  rename_i p hp;split at hl
  case h_2=>simp at hl
  rename_i r hr;split at hl
  case h_2=>simp at hl
  rename_i hq;split at hl<;>simp only[VI,reduceCtorEq]at hl
  rename_i l' hl';subst hl;obtain⟨y1,y2⟩:=r;simp only at hq hr;subst hq;obtain⟨p1,p2,p3⟩:=DI hp hk hd;obtain⟨e1,e2,e3⟩:=qY h hr trivial p3;obtain⟨i1,i2,i3⟩:=A7 h ht hz hk hd m (j+1) l' hl';rw[p2]at e1;simp only[Instr.loadAt,Instr.sureAddr,Sem.run_bind,Sem.run_pure,Result.andThen_ok,loadVar,qk w ht,if_true,fh w hz]at e1;have hag:(den J y2).cells=(cells J y2).toArray:=by simp[cells]
  cases hc:(loadCells (a.add (j*z)) z).run C.P w with
  |halt x w1=>rw[hc]at e1;simp[Result.andThen]at e1
  |ok cs w1=>
   rw[hc]at e1;simp only[Result.andThen_ok,Sem.run_pure,Result.ok.injEq]at e1;obtain⟨e1,rfl⟩:=e1
   have hcs:cs=(cells J y2).toArray:=by
    rw[<-hag,<-e1];rfl
   unfold loadCells at hc;rw[xD p1]at hc;obtain⟨_,xs,hx,hrun⟩:=Ed _ _ _ _ _ hc;simp only[Nat.add_zero]at hrun;have hxs:xs=(cells J y2).toArray:=by rw[<-hcs,hx];simp
   subst hxs;refine⟨fun acc=>?_,⟨e2,i2⟩,?_,i3⟩
   ·rw[Nat.add_mul,Nat.one_mul,Nat.add_comm,EX,hrun,Result.andThen_ok];rw[show j*z+z=(j+1)*z by rw[Nat.add_mul,Nat.one_mul],i1]
    simp only[aZ];congr 1
    apply Array.ext'
    simp[cells]
   ·cases y2<;>first|trivial| (simp[bO]at e3)
theorem D9 {P:Program} {a:Addr}:∀(xs ys:List Value) (i:Nat) (w:World),(storeCells a (xs++ys) i).run P w=((storeCells a xs i).run P w).andThen fun _ w'=>(storeCells a ys (i+xs.length)).run P w'
 | [],ys,i,w=>by simp[storeCells]
 |x::xs,ys,i,w=>by
  simp only[List.cons_append,storeCells,Sem.run_bind];cases hv:(store (a.add i) x).run P w with
  |halt y w1=>simp[Result.andThen]
  |ok u w1=>
   simp only[Result.andThen_ok];rw[D9 xs ys (i+1),show i+1+xs.length=i+(xs.length+1) by omega]
   rfl
theorem xQ {a:Addr} (h:a.spot=none) (k:Nat):∀(xs:List Value) (i:Nat),storeCells (a.add k) xs i=storeCells a xs (k+i)
 | [],i=>rfl
 |x::xs,i=>by
  simp only[storeCells,add_add h,xQ h k xs (i+1)];rfl
theorem B4 {P:Program} {K:Nat->Prop} {t z:Nat} {v:V} {a:Addr} {len cap:Nat} (hz:m9 P t=some z) (hk:ok K v) (hd:den J v= .slice (some a) len cap):
  ∀(l:List V) (j:Nat) (res res':List aC) (w:World),ba J fps res K w0 F0 w->Sp P t z v j l res=some res'->eH K l->∃w',(storeCells a (aZ J l) (j*z)).run P w= .ok () w'/\ba J fps res' K w0 F0 w'/\∀i,known res' i↔known res i
 | [],j,res,res',w,h,hl,_=>by
   simp only[Sp,VI]at hl;subst hl;exact⟨w,by simp[aZ,storeCells],h,fun _=>Iff.rfl⟩
 |y::l,j,res,res',w,h,hl,ho=>by
  simp only[Sp]at hl;split at hl
  case h_2=>simp at hl
  rename_i p hp;split at hl
  case h_2=>simp at hl
  rename_i res1 hr;obtain⟨p1,p2,p3⟩:=DI hp hk hd;obtain⟨w1,e1,e2,e3⟩:=oP h hr p3 ho.1;obtain⟨w2,i1,i2,i3⟩:=B4 hz hk hd l (j+1) res1 res' w1 e2 hl ho.2;have hlen:=aX J y ho.1
  have hy:dP y=z:=by
   unfold nZ at hr;split at hr
   ·rename_i hc;simp only[VK,VM]at hc;rw[hz]at hc;simpa using hc.1.symm
   ·simp at hr
  rw[hy]at hlen;have hsz:(den J y).cells.size=z:=by rw[<-hlen];simp[cells]
  rw[p2]at e1;simp only[Instr.storeAt,Instr.sureAddr,Sem.run_bind,Sem.run_pure,Result.andThen_ok,storeVar,fh w hz,hsz,ne_eq,not_true_eq_false,if_false,Sem.run_ite]at e1;refine⟨w2,?_,i2,fun i=>(i3 i).trans (e3 i)⟩
  rw[xQ p1,Nat.add_zero]at e1;simp only[aZ];rw[D9,show(den J y).cells.toList.length=z from hlen];rw[show(storeCells a (den J y).cells.toList (j*z)).run P w= .ok () w1 from e1,Result.andThen_ok];rw[show j*z+z=(j+1)*z by rw[Nat.add_mul,Nat.one_mul]]
  exact i1
theorem Hm {C:Ctx} {res:List aC} {K:Nat->Prop} {ts:List Nat} {xs:List V} {ty:Nat} {r:V} {res':List aC} (h:ba J fps res K w0 F0 w) (hl:Ux C res ts xs=some (r,res')) (hx:eH K xs):
  ∃w',(Builtin.copy_ ts.toArray ty (bj J xs).toArray).run C.P w= .ok (den J r) w'/\ba J fps res' K w0 F0 w'/\(∀i,known res' i↔known res i)/\ok K r:=by
 unfold Ux at hl;split at hl
 ·rename_i r' hc;simp only[VI]at hl;subst hl;exact Jh h hc hx
 ·unfold Vp at hl;split at hl
  case h_2=>simp at hl
  rename_i t t' d s;split at hl
  case h_2=>simp at hl
  rename_i e ht;split at hl
  case h_2=>simp at hl
  rename_i z a n m hz hag hn hm;split at hl
  case isFalse=>simp at hl
  rename_i hc;simp only[VK,VL]at hc;obtain⟨rfl,hin⟩:=hc;split at hl
  case h_2=>simp at hl
  rename_i l hr;split at hl<;>simp only[VI,VJ,reduceCtorEq]at hl
  rename_i res1 hw;obtain⟨rfl,rfl⟩:=hl;obtain⟨hxd,hxs,_⟩:=hx;obtain⟨ad,cd,hd⟩:=EN (J:=J) hn;obtain⟨as,cs,hs⟩:=EN (J:=J) hm;obtain⟨r1,r2,r3⟩:=A7 h hag hz hxs hs _ _ _ hr;obtain⟨w',e1,e2,e3⟩:=B4 hz hxd hd l 0 res res1 w h hw r2;refine⟨w',?_,e2,e3,hin⟩;have r1:=r1 #[];simp only[Nat.zero_mul,Array.empty_append]at r1 e1;simp only[bj,hd,hs,Builtin.copy_,List.size_toArray,List.getElem?_toArray]
  simp only[List.getElem?_cons_zero,List.getElem?_cons_succ,Sem.run_bind,bh w ht,Result.andThen_ok,Builtin.lenOf,Sem.run_pure,fh w hz,Builtin.firstCells,loadCells,r1,e1,goInt,den]
theorem jS.after {U:St} {ρ':Env} {fps':Nat->Nat->Prop} {res':List aC} {w':World} (h:jS J fps U w0 F0 a w) (hH:ba ρ' fps' res' (known res') w0 F0 w') (hg:Good J U.res ρ' res'):
  jS ρ' fps' {U with res:=res'} w0 F0 a w':=by
 obtain⟨h1,h2,h3,h4⟩:=h;obtain⟨e1,e2⟩:=eC h4 hg.1 hg.2;exact⟨h1.env hg.2 hg.1,hH,by rw[h3];exact e1.symm,e2⟩
def Ak (P:Program) (Y:cK) (ρ0:Env) (res0:List aC):Prop:=
 ∀k args res K KP,Y k args res K KP->∀J fps w0 F0 w,Good ρ0 res0 J res->ba J fps res (known res) w0 F0 w->known res k->eH (known res) args->
  ∃l fn tmps assign body,(Instr.yield (J.num k) (bj J args).toArray).run P w= .ok (.round l fn tmps assign body) w/\
   ∀ro,RoundIn (FF P ro) 0 P l fn tmps assign body w fun e w'=>∃x ρ' fps' res',ba ρ' fps' res' (known res') w0 F0 w'/\Good J res ρ' res'/\ok (known res') x/\
    ((e= .returned (den ρ' x)/\K x res')\/(e= .panicked [{v:=den ρ' x,recovered:=false}]/\KP x res'))
theorem Ak.AZ {P:Program} {Y:cK} {ρ0 ρ1:Env} {res0 res1:List aC} (h:Ak P Y ρ0 res0) (hg:Good ρ0 res0 ρ1 res1):Ak P Y ρ1 res1:=
 fun k args res K KP hy J fps w0 F0 w hg1=>h k args res K KP hy J fps w0 F0 w (hg.trans hg1)
theorem RH {P:Program} {ρ0:Env} {res0:List aC}:Ak P Uw ρ0 res0:=fun _ _ _ _ _ h=>h.elim
theorem EW {o:Oper} {U:St} {ch:List (Nat×Bool)} {q:Option Prop} {x:V} {new:List aC} {K:St->Prop} {next:Act->World->Prop} {Q:Exit->Act->World->Prop} {ro:Option Nat} (hC:C.Sound)
  (ho:Ag C U.slots U.res U.res.length ch o.op=some (q,x,new)) (hg:lz U.slots ch=true) (h:oh U.slots o.dst (.v x) fun sl=>A3 q (K {U with slots:=sl,res:=mQ U.res new})) (hr:jS J fps U w0 F0 a w)
  (hn:∀σ' ρ' fps' a' w',K σ'->jS ρ' fps' σ' w0 F0 a' w'->Good J U.res ρ' σ'.res->next a' w'):o.uponIn (FF C.P ro) 0 C.P a next Q ((execOp a.eval o).run C.P w):=by
 obtain⟨h1,h2,h3,h4⟩:=hr;rw[j4]at h;split at h
 ·rename_i sl hsl;obtain⟨hq,hK⟩:=nw h;have hfr:∀k,k<new.length->¬known U.res (U.res.length+k):=fun k _ hk=>by have:=aG hk;omega
  obtain⟨hy,hnew⟩:=lF hC ho h1 h2 hg hq hfr;refine hy.wp fun v w' ⟨ρ',hg,hv,hx⟩=>?_
  have hfr':∀i,known U.res i->¬fresh U.res.length new.length i:=fun i hi hf=>by have:=aG hi;unfold fresh at hf;omega
  have hK':∀i,known U.res i\/fresh U.res.length new.length i->known (mQ U.res new) i:=by
   intro i hi;rw[pX];obtain⟨b1,b2,b3⟩:=jy U.res new;rcases hi with hi|⟨f1,f2⟩
   ·unfold known;rw[(b1 i hi).1];exact hi
   ·have:=b3 (i-U.res.length) (by omega)
    rw[show U.res.length+(i-U.res.length)=i by omega]at this
    unfold known;rw[this];exact hnew _ (by omega)
  obtain⟨fps',g1,g2⟩:=h2.grow (res':=mQ U.res new) (by rw[pX];exact jy _ _) hfr' hK' hg
  obtain⟨e1,e2⟩:=eC h4 g2 (fun i hi=>hK' i (.inl hi))
  refine hn _ ρ' fps' _ _ hK ⟨?_,g1,by rw[put_defers,h3];exact e1.symm,e2⟩ ⟨g2,fun i hi=>hK' i (.inl hi)⟩
  exact(h1.env (fun i hi=>hK' i (.inl hi)) g2).mU hsl fun _ _ _ _=>⟨hv,cL hK' _ hx⟩
 ·exact h.elim
theorem yI {H:Handler} {Y:cK} {o:Oper} {U:St} {ch:List (Nat×Bool)} {K:St->Prop} {KP:V->St->Prop} {next:Act->World->Prop} {Q:Exit->Act->World->Prop} {ro:Option Nat} (hC:C.Sound) (hH:H.OK C.P) (hY:Ak C.P Y J U.res)
  (hd:ro≠none->dz o) (hab:∀f,o.about C.P w a.eval=some f->(C.P.funcs[f]?).isSome=true) (h:ME C H Y U ch o K KP) (hg:lz U.slots ch=true) (hr:jS J fps U w0 F0 a w)
  (hn:∀σ' ρ' fps' a' w',K σ'->jS ρ' fps' σ' w0 F0 a' w'->Good J U.res ρ' σ'.res->next a' w')
  (hp:∀v σ' ρ' fps' w',KP v σ'->ok (known σ'.res) v->jS ρ' fps' σ' w0 F0 a w'->Good J U.res ρ' σ'.res->Q (.panic [{v:=den ρ' v,recovered:=false}]) a w'):
  o.wpIn (FF C.P ro) 0 C.P a w next Q:=by
 have hr0:=hr;obtain⟨h1,h2,h3,h4⟩:=hr;have ov:∀{o:Operand} {y:V},dY U.slots ch o=some y->a.eval o=den J y/\ok (known U.res) y:=fun ho=>fJ h1 hg ho
 obtain⟨dst,op,type,pos,after,guard⟩:=o;cases op<;>simp only[ME]at h
 case store t p x=>
  split at h
  ·rename_i pv xv hpv hxv;split at h
   ·rename_i res' hs;obtain⟨w',e1,e2,e3⟩:=oP h2 hs (ov hpv).2 (ov hxv).2
    have hrun:(execOp a.eval {dst:=none,op:= .store t p x,type,pos,after,guard}).run C.P w= .ok .skip w':=by
     simp[execOp,(ov hpv).1,(ov hxv).1,e1]
    refine dF hd hab ?_;rw[hrun]
    refine hn _ J fps _ _ h ⟨?_,e2.sV fun i hi=>(e3 i).2 hi,h3,fun d hd=>⟨b9 (fun i hi=>(e3 i).2 hi) _ (h4 d hd).1,b9 (fun i hi=>(e3 i).2 hi) _ (h4 d hd).2⟩⟩
     ⟨Env.bg.refl _ _,fun i hi=>(e3 i).2 hi⟩
    exact h1.env (fun i hi=>(e3 i).2 hi) (Env.bg.refl _ _)
   ·split at h
    ·rename_i q res' hs;obtain⟨hq,hK⟩:=nw h;obtain⟨w',ρ',fps',e1,e2,e3,e4⟩:=AO h2 hs hq (ov hpv).2 (ov hxv).2
     have hrun:(execOp a.eval {dst:=none,op:= .store t p x,type,pos,after,guard}).run C.P w= .ok .skip w':=by
      simp[execOp,(ov hpv).1,(ov hxv).1,e1]
     refine dF hd hab ?_;rw[hrun];obtain⟨d1,d2⟩:=eC h4 e3 e4;exact hn _ ρ' fps' _ _ hK ⟨h1.env e4 e3,e2,by rw[show(a.put none undef).defers=a.defers from rfl,h3];exact d1.symm,d2⟩ ⟨e3,e4⟩
    ·exact h.elim
  ·exact h.elim
 case insert t m k x=>
  split at h
  case h_2=>exact h.elim
  rename_i mv kv xv hmv hkv hxv
  obtain⟨res',hs,h⟩:∃res',(OH C.P U.res t mv kv xv=some res'\/Ma C.P U.res t mv kv xv=some res')/\K {U with res:=res'}:=by
   split at h
   ·rename_i res' hs;exact⟨res',.inl hs,h⟩
   ·split at h
    ·rename_i res' hs;exact⟨res',.inr hs,h⟩
    ·exact h.elim
  obtain⟨w',e1,e2,e3⟩:∃w',(Instr.mapUpdate t (den J mv) (den J kv) (den J xv)).run C.P w= .ok () w'/\ba J fps res' (known U.res) w0 F0 w'/\∀i,known res' i↔known U.res i:=by
   rcases hs with hs|hs
   ·exact Gi h2 hs (ov hxv).2
   ·exact Gp h2 hs (ov hkv).2 (ov hxv).2
  have hrun:(execOp a.eval {dst:=none,op:= .insert t m k x,type,pos,after,guard}).run C.P w= .ok .skip w':=by
   simp[execOp,(ov hmv).1,(ov hkv).1,(ov hxv).1,e1]
  refine dF hd hab ?_;rw[hrun]
  refine hn _ J fps _ _ h ⟨?_,e2.sV fun i hi=>(e3 i).2 hi,h3,fun d hd=>⟨b9 (fun i hi=>(e3 i).2 hi) _ (h4 d hd).1,b9 (fun i hi=>(e3 i).2 hi) _ (h4 d hd).2⟩⟩
   ⟨Env.bg.refl _ _,fun i hi=>(e3 i).2 hi⟩
  exact h1.env (fun i hi=>(e3 i).2 hi) (Env.bg.refl _ _)
 case panic x=>
  split at h
  ·rename_i t y hx;obtain⟨e1,e2⟩:=ov hx
   have hrun:(execOp a.eval {dst,op:= .panic x,type,pos,after,guard}).run C.P w= .halt (.panic (den J (.ic t y))) w:=by
    simp[execOp,e1,den,Instr.panic]
   refine dF hd hab ?_;rw[hrun];exact hp _ _ J fps w h e2 ⟨h1.clean,h2,h3,h4⟩ (Good.refl _ _)
  ·exact h.elim
 case call c=>
  split at h
  ·rename_i f hf
   have fnCall:∀(g:Nat) (caps vs:List V),a.eval f=Cj g (bj J caps)->eH (known U.res) caps->kW U.slots ch c.args.toList=some vs->gg C.P (Ck g)=true->H (Ck g) (Nh g vs caps) U.res
     (fun x res'=>oh U.slots dst (.v x) fun sl=>K {U with slots:=sl,res:=res'}) (fun x res'=>KP x {U with slots:=clean U.slots,res:=res'})->Oper.wpIn (FF C.P ro) 0 C.P ⟨dst,.call c,type,pos,after,guard⟩ a w next Q:=by
    intro g caps vs e1 e2' has hcall hh;obtain⟨e3,e4⟩:=ft h1 hg has;have hca:=hH _ _ _ _ _ hh J fps w0 F0 w h2 (Qb e4 e2')
    have hrun:(execOp a.eval {dst,op:= .call c,type,pos,after,guard}).run C.P w= .ok (.enter (Ck g) (bj J (Nh g vs caps)).toArray) w:=by
     obtain⟨callee,args,argTypes⟩:=c;simp only at hf;subst hf;unfold gg at hcall;split at hcall
     ·rename_i fn hfn;simp only[VK,bne_iff_ne,ne_eq]at hcall;have hnm:(fn.name== "runtime.NumGoroutine")=false:=by simpa using hcall.1
      have hbd:fn.body.isNone=false:=by
       cases hb:fn.body with
       |none=>simp[hb]at hcall
       |some _=>rfl
      have ha:args.map a.eval=(bj J vs).toArray:=by apply Array.ext';simp[e3]
      unfold Cj at e1;unfold Ck at hfn⊢;unfold Nh;cases hlo:Nat.blt g 2000 with
      |true=>
       simp only[hlo,if_true]at e1 hfn⊢;have hcat:(bj J vs).toArray++(bj J caps).toArray=(bj J (vs++caps)).toArray:=by simp[hU]
       simp only[execOp,resolve,e1,den,Deferred.ofValue,ha,Sem.run_bind,Sem.run_pure,Result.andThen_ok,invoke,callFunc,run_program,hfn,hnm,Bool.false_eq_true,if_false,hbd,
        Array.empty_append,hcat]
      |false=>
       simp only[hlo,Bool.false_eq_true,if_false]at e1 hfn⊢;have hcat:(bj J caps).toArray++(bj J vs).toArray=(bj J (caps++vs)).toArray:=by simp[hU]
       simp only[execOp,resolve,e1,den,Deferred.ofValue,ha,Sem.run_bind,Sem.run_pure,Result.andThen_ok,invoke,callFunc,run_program,hfn,hnm,Bool.false_eq_true,if_false,hbd,
        Array.append_empty,hcat]
     ·simp at hcall
    refine dF hd hab ?_;rw[hrun];refine⟨fun h=>by simp[FF]at h,CallsIn.mono (wB hca) fun e w' ⟨x,ρ',fps',res',g1,g2,g3,g4⟩=>?_⟩
    have hra:=hr0.after g1 g2;rcases g4 with⟨rfl,hK⟩|⟨rfl,hK⟩
    ·simp only;rw[j4]at hK;split at hK
     ·rename_i sl hsl;obtain⟨k1,k2,k3,k4⟩:=hra;exact hn _ ρ' fps' _ _ hK ⟨k1.mU hsl fun _ _ _ _=>⟨rfl,g3⟩,k2,by rw[put_defers];exact k3,k4⟩ g2
     ·exact hK.elim
    ·obtain⟨k1,k2,k3,k4⟩:=hra;exact hp _ _ ρ' fps' w' hK g3 ⟨k1.clean,k2,k3,k4⟩ g2
   split at h
   ·rename_i g caps vs hfv has;obtain⟨e1,e2⟩:=ov hfv;exact fnCall g caps vs e1 e2 has h.1 h.2
   ·rename_i b g caps y vs hfv has;obtain⟨e1,e2⟩:=ov hfv;obtain⟨g',caps',d1,d2,d3,d4⟩:=uC (J:=J) _ h e2;exact fnCall g' caps' vs (e1.trans d1) d2 has d3 d4
   ·rename_i k vs hfv has;obtain⟨e1,e2⟩:=ov hfv;obtain⟨e3,e4⟩:=ft h1 hg has;obtain⟨l,fn,tmps,assign,body,y1,y2⟩:=hY _ _ _ _ _ h J fps w0 F0 w (Good.refl _ _) h2 e2 e4;refine⟨hab,?_⟩
    have hsem:Oper.semAt (FF C.P ro).round a.eval {dst,op:= .call c,type,pos,after,guard}=execOp a.eval {dst,op:= .call c,type,pos,after,guard}:=by
     show Oper.semAt ro _ _=_
     cases ro with
     |none=>exact Oper.semAt_none _ _
     |some l=>exact Oper.semAt_some l _ _ (fun c=>by simp)
    rw[hsem]
    have hrun:(execOp a.eval {dst,op:= .call c,type,pos,after,guard}).run C.P w= .ok (.round l fn tmps assign body) w:=by
     obtain⟨callee,args,argTypes⟩:=c;simp only at hf;subst hf;have ha:args.map a.eval=(bj J vs).toArray:=by apply Array.ext';simp[e3]
     simp only[execOp,resolve,e1,den,Deferred.ofValue,ha,Sem.run_bind,Sem.run_pure,Result.andThen_ok,invoke,callFunc,Array.empty_append,Array.append_empty];exact y1
    rw[hrun];refine⟨fun h=>by simp[FF]at h,RoundIn.mono (y2 ro) fun e w' ⟨x,ρ',fps',res',g1,g2,g3,g4⟩=>?_⟩
    have hra:=hr0.after g1 g2;rcases g4 with⟨rfl,hK⟩|⟨rfl,hK⟩
    ·simp only;rw[j4]at hK;split at hK
     ·rename_i sl hsl;obtain⟨k1,k2,k3,k4⟩:=hra;exact hn _ ρ' fps' _ _ hK ⟨k1.mU hsl fun _ _ _ _=>⟨rfl,g3⟩,k2,by rw[put_defers];exact k3,k4⟩ g2
     ·exact hK.elim
    ·obtain⟨k1,k2,k3,k4⟩:=hra;exact hp _ _ ρ' fps' w' hK g3 ⟨k1.clean,k2,k3,k4⟩ g2
   ·exact h.elim
  ·rename_i hcal;split at h
   ·rename_i t t' x y hts has;split at h
    ·rename_i htt;have htt:=VM.1 htt;subst htt;split at h
     ·rename_i q v res' hap;obtain⟨hq,hK⟩:=nw h;rw[j4]at hK;split at hK
      ·rename_i sl hsl;obtain⟨e3,e4⟩:=ft h1 hg has;obtain⟨w',ρ',fps',g1,g2,g3,g4,g5⟩:=Fy (ty:=type) hC.z h2 hap hq e4.1
       have hrun:(execOp a.eval {dst,op:= .call c,type,pos,after,guard}).run C.P w= .ok (.value (den ρ' v)) w':=by
        obtain⟨callee,args,argTypes⟩:=c;simp only at hcal hts e3;subst hcal;have ha:args.map a.eval= #[den J x,den J y]:=by apply Array.ext';simp[e3,bj]
        have hty:argTypes= #[t,t]:=by apply Array.ext';simpa using hts
        subst hty;simp only[execOp,resolve,Sem.run_bind,Sem.run_pure,Result.andThen_ok,invoke,builtin,ha];rw[g1];rfl
       refine dF hd hab ?_;rw[hrun];obtain⟨k1,k2,k3,k4⟩:=hr0.after g2 ⟨g3,g4⟩;exact hn _ ρ' fps' _ _ hK ⟨k1.mU hsl fun _ _ _ _=>⟨rfl,g5⟩,k2,by rw[put_defers];exact k3,k4⟩ ⟨g3,g4⟩
      ·exact hK.elim
     ·exact h.elim
    ·exact h.elim
   ·exact h.elim
  ·rename_i hcal;split at h
   case h_2=>exact h.elim
   rename_i vs has;split at h
   case h_2=>exact h.elim
   rename_i v res' hcp;rw[j4]at h;split at h
   case h_2=>exact h.elim
   rename_i sl hsl;obtain⟨e3,e4⟩:=ft h1 hg has;obtain⟨w',g1,g2,g3,g5⟩:=Hm (ty:=type) h2 hcp e4
   have hrun:(execOp a.eval {dst,op:= .call c,type,pos,after,guard}).run C.P w= .ok (.value (den J v)) w':=by
    obtain⟨callee,args,argTypes⟩:=c;simp only at hcal e3;subst hcal;have ha:args.map a.eval=(bj J vs).toArray:=by apply Array.ext';simp[e3]
    simp only[execOp,resolve,Sem.run_bind,Sem.run_pure,Result.andThen_ok,invoke,builtin,ha];simp only[Array.toArray_toList]at g1;rw[g1];rfl
   refine dF hd hab ?_;rw[hrun];have hgd:Good J U.res J res':=⟨Env.bg.refl _ _,fun i hi=>(g3 i).2 hi⟩
   obtain⟨k1,k2,k3,k4⟩:=hr0.after (g2.sV fun i hi=>(g3 i).2 hi) hgd
   exact hn _ J fps _ _ h ⟨k1.mU hsl fun _ _ _ _=>⟨rfl,cL (fun i hi=>(g3 i).2 hi) _ g5⟩,k2,by rw[put_defers];exact k3,k4⟩ hgd
  ·rename_i hcal;split at h
   case h_2=>exact h.elim
   rename_i vs has;split at h
   case h_2=>exact h.elim
   rename_i res' hcp;rw[j4]at h;split at h
   case h_2=>exact h.elim
   rename_i sl hsl;obtain⟨e3,e4⟩:=ft h1 hg has;obtain⟨w',g1,g2,g3⟩:=Fa (ty:=type) hC.z h2 hcp e4
   have hrun:(execOp a.eval {dst,op:= .call c,type,pos,after,guard}).run C.P w= .ok (.value (den J (.tp []))) w':=by
    obtain⟨callee,args,argTypes⟩:=c;simp only at hcal e3;subst hcal;have ha:args.map a.eval=(bj J vs).toArray:=by apply Array.ext';simp[e3]
    simp only[execOp,resolve,Sem.run_bind,Sem.run_pure,Result.andThen_ok,invoke,builtin,ha];simp only[Array.toArray_toList]at g1;rw[g1];rfl
   refine dF hd hab ?_;rw[hrun];have hgd:Good J U.res J res':=⟨Env.bg.refl _ _,fun i hi=>(g3 i).2 hi⟩
   obtain⟨k1,k2,k3,k4⟩:=hr0.after (g2.sV fun i hi=>(g3 i).2 hi) hgd
   exact hn _ J fps _ _ h ⟨k1.mU hsl fun _ _ _ _=>⟨rfl,trivial⟩,k2,by rw[put_defers];exact k3,k4⟩ hgd
  ·exact h.elim
 case defer c=>
  split at h
  ·rename_i f hf;split at h
   ·rename_i g caps vs hfv has;obtain⟨e1,e2⟩:=ov hfv;obtain⟨e3,e4⟩:=ft h1 hg has;split at h
    case h_2=>exact h.elim
    rename_i hmk;split at h
    case isFalse=>exact h.elim
    rename_i hlo;have e1:a.eval f= .func (.func g) #[] (bj J caps).toArray:=e1.trans (wW hlo)
    have hrun:(execOp a.eval {dst:=none,op:= .defer c,type,pos,after,guard}).run C.P w= .ok (.defer {target:= .fn (.func g) (bj J caps).toArray,args:=(bj J vs).toArray}) w:=by
     obtain⟨callee,args,argTypes⟩:=c;simp only at hf;subst hf;have ha:args.map a.eval=(bj J vs).toArray:=by apply Array.ext';simp[e3]
     simp[execOp,resolve,e1,den,Deferred.ofValue,ha]
    refine dF hd hab ?_;rw[hrun];refine hn _ J fps _ _ h ⟨h1,h2,by simp[Act.put,h3,j5,hmk],fun d hd=>?_⟩ (Good.refl _ _)
    rcases List.mem_cons.1 hd with rfl|hd
    ·exact⟨e4,e2⟩
    ·exact h4 d hd
   ·exact h.elim
  ·exact h.elim
theorem Bc (ch:List (Nat×Bool)):∀(l:List S) (i t:Nat),bF (EI ch i l) t=zn ch (i+t) (bF l t)
 | [],i,t=>by simp[EI,bF,zn]
 |s::l,i,0=>by simp[EI,bF]
 |s::l,i,t+1=>by simp only[EI,bF];rw[Bc ch l (i+1) t,show i+1+t=i+(t+1) by omega]
theorem v8 (ch:List (Nat×Bool)):∀(l:List S) (i:Nat),(EI ch i l).length=l.length
 | [],_=>rfl
 |s::l,i=>by simp[EI,v8 ch l]
theorem yw (q:Nat) (w:Bool):∀(l:List S) (i t:Nat),bF (A8 q w i l) t=fixF q w (i+t) (bF l t)
 | [],i,t=>by simp[A8,bF,fixF]
 |s::l,i,0=>by simp[A8,bF]
 |s::l,i,t+1=>by simp only[A8,bF];rw[yw q w l (i+1) t,show i+1+t=i+(t+1) by omega]
theorem uF (q:Nat) (w:Bool):∀(l:List S) (i:Nat),(A8 q w i l).length=l.length
 | [],_=>rfl
 |s::l,i=>by simp[A8,uF q w l]
theorem w8:∀{ch:List (Nat×Bool)} {i:Nat} {w:Bool},uN ch i=some w->(i,w)∈ch
 | [],_,_,h=>by simp[uN]at h
 | (s,v)::c,i,w,h=>by
   simp only[uN]at h;split at h
   ·rename_i e;have e:=VM.1 e;simp only[VI]at h;subst e;subst h;simp
   ·exact List.mem_cons_of_mem _ (w8 h)
theorem G7 {sl:List S} {ch:List (Nat×Bool)} (hg:lz sl ch=true) (t:Nat):raw (zn ch t (bF sl t))=raw (bF sl t):=by
 have key:∀w,uN ch t=some w->raw (bF sl t)=some w:=fun w hw=>(u6 sl ch).1 hg (t,w) (w8 hw)
 cases hs:bF sl t with
 |und=>rfl
 |ud=>rfl
 |v y=>
  rw[hs]at key;cases y<;>try rfl
  simp only[zn];cases hw:uN ch t with
  |none=>rfl
  |some w=>exact(key w hw).symm
 |gv c y=>
  rw[hs]at key;simp only[zn];split
  ·cases y<;>try rfl
   simp only;cases hw:uN ch t with
   |none=>rfl
   |some w=>exact(key w hw).symm
  ·rfl
theorem zV {sl sl':List S} (h:∀t,raw (bF sl' t)=raw (bF sl t)):∀c,lz sl' c=lz sl c
 | []=>rfl
 | (s,w)::c=>by rw[gO,gO,h,zV h c]
theorem gL.EI {K:Nat->Prop} {sl:List S} {ch:List (Nat×Bool)} (h:gL J K sl a) (hg:lz sl ch=true):gL J K (EI ch 0 sl) a:=by
 have hget:∀t,bF (Sx.EI ch 0 sl) t=zn ch t (bF sl t):=fun t=>by rw[Bc,Nat.zero_add]
 have hraw:∀t,raw (bF (Sx.EI ch 0 sl) t)=raw (bF sl t):=fun t=>by rw[hget,G7 hg]
 refine⟨by rw[v8];exact h.1,fun t=>?_⟩
 rw[hget];have ht:=h.2 t;have key:∀w,uN ch t=some w->raw (bF sl t)=some w:=fun w hw=>(u6 sl ch).1 hg (t,w) (w8 hw)
 cases hs:bF sl t with
 |und=>trivial
 |ud=>rw[hs]at ht;exact ht
 |v y=>
  rw[hs]at ht key;cases y<;>try exact ht
  simp only[zn];cases hw:uN ch t with
  |none=>exact ht
  |some w=>
   have:=key w hw;simp only[raw,VI]at this;subst this;exact ht
 |gv c y=>
  rw[hs]at ht key;simp only[zn];split
  ·rename_i hsub;obtain⟨e1,e2⟩:=ht.1 (Ey hsub hg);cases y<;>try exact⟨e1,e2⟩
   simp only;cases hw:uN ch t with
   |none=>exact⟨e1,e2⟩
   |some w=>
    have:=key w hw;simp only[raw,VI]at this;subst this;exact⟨e1,e2⟩
  ·exact⟨fun hgc=>ht.1 (by rwa [zV hraw]at hgc),fun hgc=>ht.2 (by rwa [zV hraw]at hgc)⟩
theorem gL.Tx {K:Nat->Prop} {sl:List S} {ch:List (Nat×Bool)} (h:gL J K sl a) (hg:lz sl ch=false):gL J K (Tx ch sl) a:=by
 unfold Sx.Tx;split
 ·rename_i q w;split
  ·rename_i b hq
   have hb:b= !w:=by
    rw[gO,hq]at hg;simp only[raw,lz,Bool.and_true]at hg;cases w<;>simp_all
   refine⟨by rw[uF];exact h.1,fun t=>?_⟩
   rw[yw,Nat.zero_add];have ht:=h.2 t;cases hs:bF sl t with
   |und=>trivial
   |ud=>rw[hs]at ht;exact ht
   |v y=>
    rw[hs]at ht;cases y<;>try exact ht
    simp only[fixF];split
    ·rename_i e;have e:=VM.1 e;subst e;rw[hq]at hs;simp only[S.v.injEq,V.bo.injEq]at hs;subst hs;rw[<-hb];exact ht
    ·exact ht
   |gv c y=>
    rw[hs]at ht;simp only[fixF];split
    ·rename_i hc;refine ht.2 ?_;cases hgc:lz sl c with
     |false=>rfl
     |true=>
      simp only[EM,List.any_eq_true,VK,VM]at hc;obtain⟨p,hp,e1,e2⟩:=hc;have:=(u6 sl c).1 hgc p hp;rw[e1,e2,hq]at this;simp only[raw,VI]at this;rw[this]at hb;cases w<;>simp at hb
    ·trivial
  ·exact h
 ·exact h
theorem ke {H:Handler} {Y:cK} {ops:Array Oper} {o:Oper} {U:St} {K:St->Prop} {KP:V->St->Prop} {next:Act->World->Prop} {Q:Exit->Act->World->Prop} {ro:Option Nat} (hC:C.Sound) (hH:H.OK C.P) (hY:Ak C.P Y J U.res)
  (hd:ro≠none->dz o) (h:wh C H Y ops.toList o U K KP) (hr:jS J fps U w0 F0 a w)
  (hn:∀σ' ρ' fps' a' w',K σ'->jS ρ' fps' σ' w0 F0 a' w'->Good J U.res ρ' σ'.res->next a' w')
  (hp:∀v σ' ρ' fps' w',KP v σ'->ok (known σ'.res) v->jS ρ' fps' σ' w0 F0 a w'->Good J U.res ρ' σ'.res->Q (.panic [{v:=den ρ' v,recovered:=false}]) a w'):
  (∀f,o.about C.P w a.eval=some f->(FF C.P ro).fn f)/\if Region.wanted o (yielded ops a.tmps)then o.wpIn (FF C.P ro) 0 C.P a w next Q else next (a.put o.dst undef) w:=by
 have hr0:=hr;obtain⟨h1,h2,h3,h4⟩:=hr
 have skip:(oh U.slots o.dst .ud fun sl=>K {U with slots:=sl})->next (a.put o.dst undef) w:=fun h=>by
  rw[j4]at h;split at h
  ·rename_i sl hsl;exact hn _ J fps _ _ h ⟨h1.mU hsl fun _ _ _ _=>rfl,h2,by rw[put_defers];exact h3,h4⟩ (Good.refl _ _)
  ·exact h.elim
 unfold wh at h;split at h
 case isFalse=>exact h.elim
 rename_i hab;have hab:=Bs h1 hab w;refine⟨hab,?_⟩;split at h
 ·exact h.elim
 ·rename_i hc;rw[kZ h1 hc];simp only[sZ,Bool.false_eq_true,if_false];exact skip h
 ·rename_i ch hc;rw[kZ h1 hc];rw[show sZ U.slots (some ch)=lz U.slots ch from rfl];split at h
  ·rename_i q x new ho;split at h
   ·rename_i hch;have hch:ch= []:=by simpa using hch
    subst hch;simp only[lz,if_true];exact dF hd hab (EW hC ho rfl h hr0 hn)
   ·split at h
    ·rename_i hne;have hne:new= []:=by simpa using hne
     subst hne;rw[j4]at h;split at h
     ·rename_i sl hsl;obtain⟨hq,hK⟩:=Bd h;by_cases hgo:lz U.slots ch=true
      ·rw[VR hgo];obtain⟨hy,_⟩:=lF hC ho h1 h2 hgo (hq hgo) fun k hk=>by simp at hk
       refine dF hd hab (hy.wp fun v w' ⟨ρ',hg,hv,hx⟩=>?_)
       have hfr':∀i,known U.res i->¬fresh U.res.length ([]:List aC).length i:=fun i hi hf=>by unfold fresh at hf;simp at hf;omega
       have hK':∀i,known U.res i\/fresh U.res.length ([]:List aC).length i->known U.res i:=fun i hi=>by
        rcases hi with hi|hf
        ·exact hi
        ·unfold fresh at hf;simp at hf;omega
       obtain⟨fps',g1,g2⟩:=h2.grow (res':=U.res) (by have:=jy U.res [];simpa using this) hfr' hK' hg
       obtain⟨e1,e2⟩:=eC h4 g2 (fun i hi=>hi)
       refine hn _ ρ' fps' _ _ hK ⟨?_,g1,by rw[put_defers,h3];exact e1.symm,e2⟩ ⟨g2,fun i hi=>hi⟩
       refine(h1.env (fun i hi=>hi) g2).mU hsl fun d hd hf hnm=>⟨fun _=>⟨hv,cL hK' _ hx⟩,fun hgf=>?_⟩
       rw[ry (hnm ch x rfl),hgo]at hgf;simp at hgf
      ·rw[VQ hgo];refine hn _ J fps _ _ hK ⟨?_,h2,by rw[put_defers];exact h3,h4⟩ (Good.refl _ _)
       refine h1.mU hsl fun d hd hf hnm=>⟨fun hgt=>?_,fun _=>rfl⟩
       rw[ry (hnm ch x rfl)]at hgt;exact absurd hgt hgo
     ·exact h.elim
    ·obtain⟨ht,hf⟩:=h;split
     ·rename_i hgo;exact dF hd hab (EW hC ho hgo (ht hgo) hr0 hn)
     ·rename_i hgo;exact skip (hf (by simpa using hgo))
  ·split at h
   ·rename_i hch;have hch:ch= []:=by simpa using hch
    subst hch;simp only[lz,if_true];exact yI hC hH hY hd hab h rfl hr0 hn hp
   ·obtain⟨ht,hf⟩:=h;simp only[rM]at ht hf;split
    ·rename_i hgo;exact yI (U:= {U with slots:=EI ch 0 U.slots}) hC hH hY hd hab (ht hgo) rfl ⟨h1.EI hgo,h2,h3,h4⟩ hn hp
    ·rename_i hgo;have hf:=hf (by simpa using hgo)
     rw[j4]at hf;split at hf
     ·rename_i sl hsl;exact hn _ J fps _ _ hf ⟨(h1.Tx (by simpa using hgo)).mU hsl fun _ _ _ _=>rfl,h2,by rw[put_defers];exact h3,h4⟩ (Good.refl _ _)
     ·exact hf.elim
end
end Go.Sx
namespace Go.Sx
open Go.RowKit (Below)
def h9:List Prop->Prop
 | []=>True
 | [p]=>p
 |p::l=>p/\h9 l
theorem sr:∀l:List Prop,h9 l↔ ∀p∈l,p
 | []=>by simp[h9]
 | [p]=>by simp only[h9,List.mem_singleton];exact⟨fun h q hq=>hq▸h,fun h=>h p rfl⟩
 |p::q::l=>by
  have:=sr (q::l);simp only[h9,List.mem_cons,forall_eq_or_imp]at this⊢;rw[this]
def oH (a b:Option (List Prop)):Option (List Prop):=
 match a,b with
 |some x,some y=>some (x++y)
 |_,_=>none
def mn (b:Bool) (l:List Prop):Option (List Prop):=if b then some l else none
mutual
def uL:V->V->Option (List Prop)
 | .cb a,.cb b=>some [a=b]
 | .cb a,.bo b=>some [a=b]
 | .bo a,.cb b=>some [a=b]
 | .bo a,.bo b=>some [a=b]
 | .ci k a,.ci k' b=>mn (k==k'&&decide (a=b)) []
 | .ci k a,.it k' b=>mn (k==k') [a=b]
 | .it k a,.ci k' b=>mn (k==k') [a=b]
 | .it k a,.it k' b=>mn (k==k') [a=b]
 | .bt a,.bt b=>some [a=b]
 | .st a,.st b=>some [a=b]
 | .nl a,.nl b=>some [a=b]
 | .lp i o,.lp i' o'=>mn (i==i'&&o==o') []
 | .lx a b c d i e,.lx a' b' c' d' i' e'=>mn (a==a'&&b==b'&&c==c'&&e==e') [d=d',i=i']
 | .sc i n c,.sc i' n' c'=>mn (i==i') [n=n',c=c']
 | .so i n,.so i' n'=>mn (i==i') [n=n']
 | .ap i e j o,.ap i' e' j' o'=>mn (i==i'&&e==e'&&o==o') [j=j']
 | .sa i,.sa i'=>mn (i==i') []
 | .op i n,.op i' n'=>mn (i==i') [n=n']
 | .yl i,.yl i'=>mn (i==i') []
 | .fn f l,.fn g m=>if f==g then qt l m else none
 | .ic t x,.ic u y=>if t==u then uL x y else none
 | .ag l,.ag m=>qt l m
 | .tp l,.tp m=>qt l m
 | .key a,.key b=>some [a=b]
 | .sl a,.sl b=>some [a=b]
 | .by a,.by b=>some [a=b]
 | .ob a,.ob b=>some [a=b]
 |_,_=>none
def qt:List V->List V->Option (List Prop)
 | [],[]=>some []
 |x::l,y::m=>oH (uL x y) (qt l m)
 |_,_=>none
end
def qR (J:Env) (K:Nat->Prop) (x y:V):Prop:=den J x=den J y/\(ok K x->ok K y)/\bO x=bO y
def SX (J:Env) (K:Nat->Prop) (x y:List V):Prop:=bj J x=bj J y/\aZ J x=aZ J y/\(eH K x->eH K y)/\(qB x->qB y)
theorem qR.refl (J:Env) (K:Nat->Prop) (x:V):qR J K x x:=⟨rfl,id,rfl⟩
theorem ju {a b:Option (List Prop)} {l:List Prop} (h:oH a b=some l) (hl:h9 l):∃x y,a=some x/\b=some y/\h9 x/\h9 y:=by
 unfold oH at h;split at h<;>simp only[VI,reduceCtorEq]at h
 rename_i x y;subst h;rw[sr]at hl;exact⟨x,y,rfl,rfl,(sr x).2 fun p hp=>hl p (List.mem_append.2 (.inl hp)),(sr y).2 fun p hp=>hl p (List.mem_append.2 (.inr hp))⟩
theorem eV {b:Bool} {l m:List Prop} (h:mn b l=some m):b=true/\m=l:=by
 unfold mn at h;split at h<;>simp_all
mutual
theorem pg (J:Env) (K:Nat->Prop):∀(x y:V) (l:List Prop),uL x y=some l->h9 l->qR J K x y
 | .fn f l,y,m,h,hl=>by
   cases y<;>simp only[uL,reduceCtorEq]at h
   split at h
   ·rename_i he;have he:=VM.1 he;subst he;obtain⟨a,_,c,_⟩:=lD J K _ _ _ h hl;exact⟨by simp only[den,a],c,rfl⟩
   ·simp at h
 | .ic t x,y,m,h,hl=>by
   cases y<;>simp only[uL,reduceCtorEq]at h
   split at h
   ·rename_i he;have he:=VM.1 he;subst he;obtain⟨a,c,_⟩:=pg J K _ _ _ h hl;exact⟨by simp only[den,a],c,rfl⟩
   ·simp at h
 | .ag l,y,m,h,hl=>by
   cases y<;>simp only[uL,reduceCtorEq]at h
   obtain⟨_,b,c,d⟩:=lD J K _ _ _ h hl;exact⟨by simp only[den,b],fun hh=>⟨c hh.1,d hh.2⟩,rfl⟩
 | .tp l,y,m,h,hl=>by
   cases y<;>simp only[uL,reduceCtorEq]at h
   obtain⟨a,_,c,_⟩:=lD J K _ _ _ h hl;exact⟨by simp only[den,a],c,rfl⟩
 | .lp i o,y,m,h,hl=>by
   cases y<;>simp only[uL,reduceCtorEq]at h
   obtain⟨hb,rfl⟩:=eV h;simp only[VK,VM]at hb;obtain⟨rfl,rfl⟩:=hb;exact qR.refl _ _ _
 | .ax _ _ _ _ _ _ _ _,y,m,h,hl=>by cases y<;>simp[uL]at h
 | .bs _ _ _,y,m,h,hl=>by cases y<;>simp[uL]at h
 | .ks _ _ _ _ _,y,m,h,hl=>by cases y<;>simp[uL]at h
 | .sa i,y,m,h,hl=>by
   cases y<;>simp only[uL,reduceCtorEq]at h
   obtain⟨hb,rfl⟩:=eV h;have hb:=VM.1 hb;subst hb;exact qR.refl _ _ _
 | .yl i,y,m,h,hl=>by
   cases y<;>simp only[uL,reduceCtorEq]at h
   obtain⟨hb,rfl⟩:=eV h;have hb:=VM.1 hb;subst hb;exact qR.refl _ _ _
 | .lx a b c d i e,y,m,h,hl=>by
   cases y<;>simp only[uL,reduceCtorEq]at h
   obtain⟨hb,rfl⟩:=eV h;simp only[VK,VM]at hb;obtain⟨⟨⟨rfl,rfl⟩,rfl⟩,rfl⟩:=hb;simp only[h9]at hl;obtain⟨rfl,rfl⟩:=hl;exact qR.refl _ _ _
 | .sc i n c,y,m,h,hl=>by
   cases y<;>simp only[uL,reduceCtorEq]at h
   obtain⟨hb,rfl⟩:=eV h;have hb:=VM.1 hb;subst hb;simp only[h9]at hl;obtain⟨rfl,rfl⟩:=hl;exact qR.refl _ _ _
 | .op i n,y,m,h,hl=>by
   cases y<;>simp only[uL,reduceCtorEq]at h
   obtain⟨hb,rfl⟩:=eV h;have hb:=VM.1 hb;subst hb;simp only[h9]at hl;subst hl;exact qR.refl _ _ _
 | .so i n,y,m,h,hl=>by
   cases y<;>simp only[uL,reduceCtorEq]at h
   obtain⟨hb,rfl⟩:=eV h;have hb:=VM.1 hb;subst hb;simp only[h9]at hl;subst hl;exact qR.refl _ _ _
 | .ap i e j o,y,m,h,hl=>by
   cases y<;>simp only[uL,reduceCtorEq]at h
   obtain⟨hb,rfl⟩:=eV h;simp only[VK,VM]at hb;obtain⟨⟨rfl,rfl⟩,rfl⟩:=hb;simp only[h9]at hl;subst hl;exact qR.refl _ _ _
 | .ci k a,y,m,h,hl=>by
   cases y<;>simp only[uL,reduceCtorEq]at h<;>obtain⟨hb,rfl⟩:=eV h
   ·simp only[VK,VM,VL]at hb;obtain⟨rfl,rfl⟩:=hb;exact⟨rfl,id,rfl⟩
   ·have hb:=VM.1 hb;subst hb;simp only[h9]at hl;subst hl;exact⟨rfl,id,rfl⟩
 | .it k a,y,m,h,hl=>by
   cases y<;>simp only[uL,reduceCtorEq]at h<;>obtain⟨hb,rfl⟩:=eV h<;>have hb:=VM.1 hb<;>subst hb<;>simp only[h9]at hl<;>subst hl<;>exact⟨rfl,id,rfl⟩
 | .cb a,y,m,h,hl| .bo a,y,m,h,hl| .bt a,y,m,h,hl| .st a,y,m,h,hl| .nl a,y,m,h,hl| .key a,y,m,h,hl| .sl a,y,m,h,hl| .by a,y,m,h,hl| .ob a,y,m,h,hl=>by
   cases y<;>simp only[uL,reduceCtorEq,VI]at h<;>subst h<;>simp only[h9]at hl<;>subst hl<;>exact⟨rfl,id,rfl⟩
theorem lD (J:Env) (K:Nat->Prop):∀(x y:List V) (l:List Prop),qt x y=some l->h9 l->SX J K x y
 | [],[],_,_,_=>⟨rfl,rfl,id,id⟩
 | [],_::_,_,h,_=>by simp[qt]at h
 |_::_,[],_,h,_=>by simp[qt]at h
 |x::l,y::m,p,h,hp=>by
  simp only[qt]at h;obtain⟨a,b,h1,h2,h3,h4⟩:=ju h hp;obtain⟨e1,e2,e3⟩:=pg J K x y a h1 h3;obtain⟨f1,f2,f3,f4⟩:=lD J K l m b h2 h4;refine⟨by simp only[bj,e1,f1],by simp only[aZ,e1,f2],fun hh=>⟨e2 hh.1,f3 hh.2⟩,fun hh=>?_⟩
  rw[cN]at hh⊢;intro z hz;rcases List.mem_cons.1 hz with rfl|hz
  ·rw[<-e3];exact hh x (by simp)
  ·exact(cN _).1 (f4 ((cN _).2 fun q hq=>hh q (by simp[hq]))) z hz
end
def js (res:List aC) (i:Nat):Bool:=
 match ar res i with
 | .yet=>false
 |_=>true
theorem cm {res:List aC} {i:Nat}:js res i=true↔known res i:=by
 unfold js known;cases ar res i<;>simp
mutual
def within (res:List aC):V->Bool
 | .lp i _=>js res i
 | .lx i _ _ _ _ _=>js res i
 | .sc i _ _=>js res i
 | .so i _=>js res i
 | .ap i _ _ _=>js res i
 | .ax i _ _ _ _ _ _ _=>js res i
 | .sa i=>js res i
 | .op i _=>js res i
 | .yl i=>js res i
 | .mp i=>js res i
 | .ch _ _ l y=>ll res l&&within res y
 | .bs x _ _=>within res x
 | .ks x _ _ _ _=>within res x
 | .fn _ l=>ll res l
 | .ic _ x=>within res x
 | .ag l=>ll res l
 | .tp l=>ll res l
 |_=>true
def ll (res:List aC):List V->Bool
 | []=>true
 |x::l=>within res x&&ll res l
end
mutual
theorem ij {res:List aC} {K:Nat->Prop}:∀v,within res v=true->ok K v->ok (known res) v
 | .lp i _,h,_| .sc i _ _,h,_| .so i _,h,_| .ap i _ _ _,h,_| .sa i,h,_| .op i _,h,_| .yl i,h,_| .mp i,h,_=>cm.1 (by simpa[within]using h)
 | .bs x _ _,h,hk=>⟨ij x (by simpa only[within]using h) hk.1,hk.2⟩
 | .ks x _ _ _ _,h,hk=>⟨ij x (by simpa only[within]using h) hk.1,hk.2⟩
 | .ch _ _ l y,h,hk=>by
   simp only[within,VK]at h;exact⟨gD l h.1 hk.1,ij y h.2 hk.2.1,hk.2.2⟩
 | .lx i _ _ _ _ _,h,hk=>⟨cm.1 (by simpa[within]using h),hk.2⟩
 | .ax i _ _ _ _ _ _ _,h,hk=>⟨cm.1 (by simpa[within]using h),hk.2⟩
 | .fn _ l,h,hk=>gD l (by simpa[within]using h) hk
 | .tp l,h,hk=>gD l (by simpa[within]using h) hk
 | .ag l,h,hk=>⟨gD l (by simpa[within]using h) hk.1,hk.2⟩
 | .ic _ x,h,hk=>ij x (by simpa[within]using h) hk
 | .cb _,_,h| .bo _,_,h| .ci _ _,_,h| .it _ _,_,h| .bt _,_,h| .st _,_,h| .nl _,_,h| .key _,_,h| .sl _,_,h| .by _,_,h| .ob _,_,h=>h
theorem gD {res:List aC} {K:Nat->Prop}:∀l,ll res l=true->eH K l->eH (known res) l
 | [],_,_=>trivial
 |x::l,h,hk=>by
  simp only[ll,VK]at h;exact⟨ij x h.1 hk.1,gD l h.2 hk.2⟩
end
def kJ (res:List aC):List S->List S->Option (List Prop)
 | [],[]=>some []
 |x::l,y::m=>match y with
  | .und=>kJ res l m
  | .v b=>match x with
    | .v a=>if within res b then oH (uL a b) (kJ res l m)else none
    |_=>none
  |_=>none
 |_,_=>none
def RD:TL->TL->Option (List Prop)
 | .fn n g,.fn n' g'=>some [n=n',g=g']
 | .ob a,.ob b=>some [a=b]
 | .key a,.key b=>some [a=b]
 | .it k a,.it k' b=>mn (k==k') [a=b]
 | .bo a,.bo b=>some [a=b]
 | .st a,.st b=>some [a=b]
 |_,_=>none
theorem Gg {a b:TL} {p:List Prop} (h:RD a b=some p) (hp:h9 p):a=b:=by
 cases a<;>cases b<;>simp only[RD,VI,reduceCtorEq]at h
 ·subst h;simp only[h9]at hp;obtain⟨rfl,rfl⟩:=hp;rfl
 ·subst h;simp only[h9]at hp;subst hp;rfl
 ·subst h;simp only[h9]at hp;subst hp;rfl
 ·obtain⟨hb,rfl⟩:=eV h;have hb:=VM.1 hb;simp only[h9]at hp;subst hp;subst hb;rfl
 ·subst h;simp only[h9]at hp;subst hp;rfl
 ·subst h;simp only[h9]at hp;subst hp;rfl
def EH (o' o:Option Nat):Bool:=match o with
 |none=>true
 |some e=>match o' with
  |some e'=>e==e'
  |none=>false
def zs:LoopState->LoopState->Bool
 | .ready,.ready=>true
 | .busy,.busy=>true
 | .done,.done=>true
 | .exhausted,.exhausted=>true
 |_,_=>false
theorem yK {a b:LoopState} (h:zs a b=true):a=b:=by cases a<;>cases b<;>first|rfl|simp[zs]at h
def rL (all:List aC):aC->aC->Option (List Prop)
 |x,.yet=>some []
 |x,.gone=>match x with
  | .yet=>none
  |_=>some []
 |x,.blk t c=>match x with
  | .blk t' c'=>if t==t'&&within all c then uL c' c else none
  |_=>none
 |x,.arr o e g=>match x with
  | .arr o' e' g'=>if e==e'&&EH o' o then RD g' g else none
  |_=>none
 |x,.obs t q L=>match x with
  | .obs t' q' L'=>if t==t'&&q==q'&&js all q then some [L'=L]else none
  |_=>none
 |x,.gen j=>match x with
  | .gen j'=>if j==j' then some []else none
  |_=>none
 |x,.store t e L=>match x with
  | .store t' e' L'=>if t==t'&&e==e' then some [L'=L]else none
  |_=>none
 |x,.lop r s j=>match x with
  | .lop r' s' j'=>match j with
    |none=>match j' with
     |none=>if zs s' s then some [r'=r]else none
     |some _=>none
    |some _=>none
  |_=>none
 |x,.dfr=>match x with
  | .dfr=>some []
  |_=>none
 |_,.mp _ _ _=>none
 |_,.mq _ _=>none
 |x,.ro y=>match x with
  | .ro x=>match y with
    | .yet=>none
    |_=>rL all x y
  |_=>none
def ph (all:List aC):List aC->List aC->Option (List Prop)
 |_,[]=>some []
 |x::l,y::m=>match y with
  | .yet=>ph all l m
  |_=>oH (rL all x y) (ph all l m)
 | [],y::m=>match y with
   | .yet=>ph all [] m
   |_=>none
def qc (res:List aC):List (Nat×List V×List V)->List (Nat×List V×List V)->Option (List Prop)
 | [],[]=>some []
 | (f,a,b)::l,(g,c,d)::m=>if f==g&&ll res c&&ll res d then oH (oH (qt a c) (qt b d)) (qc res l m)else none
 |_,_=>none
def UJ (U τ:St):Option (List Prop):=
 oH (kJ τ.res U.slots τ.slots) (oH (ph τ.res U.res τ.res) (qc τ.res U.defs τ.defs))
def Sub (U τ:St):Prop:=
 match UJ U τ with
 |some l=>h9 l
 |none=>False
section
variable {J:Env} {fps:Nat->Nat->Prop} {w0 w:World} {F0:Nat->Prop} {a:Act}
def yn (J:Env) (K:Nat->Prop) (x:Value):S->Prop
 | .und=>True
 | .v b=>x=den J b/\ok K b
 |_=>False
theorem yn.ok {K:Nat->Prop} {sl:List S} {x:Value} {s:S} (h:yn J K x s):fF J K sl x s:=by
 cases s with
 |und=>trivial
 |v b=>exact h
 |ud=>exact h.elim
 |gv ch b=>exact h.elim
theorem qC {K:Nat->Prop} {res:List aC} {sl0:List S}:∀(l m:List S) (p:List Prop),kJ res l m=some p->h9 p->l.length=m.length/\
  ∀t x,fF J K sl0 x (bF l t)->yn J (known res) x (bF m t)
 | [],[],_,_,_=>⟨rfl,fun t x _=>by simp[bF,yn]⟩
 | [],_::_,_,h,_=>by simp[kJ]at h
 |_::_,[],_,h,_=>by simp[kJ]at h
 |x::l,y::m,p,h,hp=>by
  have key:∀(q:List Prop),kJ res l m=some q->h9 q->(∀z,fF J K sl0 z x->yn J (known res) z y)->
    (x::l).length=(y::m).length/\∀t z,fF J K sl0 z (bF (x::l) t)->yn J (known res) z (bF (y::m) t):=by
   intro q hq hq' hz;obtain⟨e1,e2⟩:=qC l m q hq hq';refine⟨by simp[e1],fun t z hh=>?_⟩
   cases t with
   |zero=>exact hz z hh
   |succ t=>exact e2 t z hh
  simp only[kJ]at h;split at h
  ·exact key p h hp fun _ _=>trivial
  ·rename_i b;split at h
   ·rename_i a';split at h
    ·rename_i hw;obtain⟨u,v,h1,h2,h3,h4⟩:=ju h hp;refine key v h2 h4 fun z hz=>?_
     obtain⟨e1,e2,_⟩:=pg J K a' b u h1 h3;exact⟨hz.1.trans e1,ij b hw (e2 hz.2)⟩
    ·simp at h
   ·simp at h
  ·simp at h
theorem xF {K:Nat->Prop} {all:List aC}:∀(x y:aC) (p:List Prop),rL all x y=some p->h9 p->y≠ .yet->x≠ .yet/\∀j fp w0 F0 w,x.holds K J j fp w0 F0 w->y.holds (known all) J j fp w0 F0 w
 |x,.yet,p,h,hp,hy=>absurd rfl hy
 |x,.gone,p,h,hp,hy=>by
  unfold rL at h;split at h
  ·simp at h
  ·rename_i hx;exact⟨hx,fun _ _ _ _ _ _=>trivial⟩
 |x,.blk t c,p,h,hp,hy=>by
  unfold rL at h;split at h
  ·rename_i t' c';split at h
   ·rename_i hc;simp only[VK,VM]at hc;obtain⟨rfl,hw⟩:=hc;refine⟨by simp,fun j fp w0 F0 w hh=>?_⟩
    obtain⟨e1,e2,e3⟩:=pg J K c' c p h hp;obtain⟨g1,g2,g3,g4⟩:=hh;exact⟨ij c hw (e2 g1),by rw[<-e3];exact g2,g3,by rw[g4];simp only[cells,e1]⟩
   ·simp at h
  ·simp at h
 |x,.arr o e g,p,h,hp,hy=>by
  unfold rL at h;split at h
  ·rename_i o' e' g';split at h
   ·rename_i hc;simp only[VK,VM]at hc;obtain⟨rfl,hc2⟩:=hc;have:=Gg h hp;subst this;refine⟨by simp,fun j fp w0 F0 w hh=>?_⟩
    obtain⟨a1,a2,a3,a4,a5,a6,a7⟩:=hh;refine⟨a1,a2,a3,a4,a5,a6,?_⟩;rcases a7 with⟨b1,b2⟩|⟨x,b1,b2⟩
    ·refine .inl ⟨?_,b2⟩;subst b1;cases o with
     |none=>rfl
     |some z=>simp[EH]at hc2
    ·refine .inr ⟨x,fun z hz=>?_,b2⟩
     subst hz;cases o' with
     |none=>simp[EH]at hc2
     |some y=>
      have:=b1 y rfl;simp only[EH,VM]at hc2;omega
   ·simp at h
  ·simp at h
 |x,.obs t q L,p,h,hp,hy=>by
  unfold rL at h;split at h
  ·split at h
   ·rename_i hc;simp only[VK,VM]at hc;obtain⟨⟨rfl,rfl⟩,hkq⟩:=hc;simp only[VI]at h;subst h;simp only[h9]at hp;subst hp;exact⟨by simp,fun j fp w0 F0 w hh=>⟨cm.1 hkq,hh.2⟩⟩
   ·simp at h
  ·simp at h
 |x,.gen j,p,h,hp,hy=>by
  unfold rL at h;split at h
  ·exact⟨by simp,fun _ _ _ _ _ _=>trivial⟩
  ·simp at h
 |x,.store t e L,p,h,hp,hy=>by
  unfold rL at h;split at h
  ·split at h
   ·rename_i hc;simp only[VK,VM]at hc;obtain⟨rfl,rfl⟩:=hc;simp only[VI]at h;subst h;simp only[h9]at hp;subst hp;exact⟨by simp,fun j fp w0 F0 w hh=>hh⟩
   ·simp at h
  ·simp at h
 |x,.lop r s j,p,h,hp,hy=>by
  unfold rL at h;split at h
  ·split at h
   ·split at h
    ·split at h
     ·rename_i hs;have:=yK hs;subst this;simp only[VI]at h;subst h;simp only[h9]at hp;subst hp;exact⟨by simp,fun j fp w0 F0 w hh=>hh⟩
     ·simp at h
    ·simp at h
   ·simp at h
  ·simp at h
 |x,.dfr,p,h,hp,hy=>by
  unfold rL at h;split at h
  ·exact⟨by simp,fun j fp w0 F0 w hh=>hh⟩
  ·simp at h
 |x,.mp _ _ _,p,h,hp,hy=>by simp[rL]at h
 |x,.mq _ _,p,h,hp,hy=>by simp[rL]at h
 |x,.ro y,p,h,hp,hy=>by
  unfold rL at h;split at h
  ·rename_i x';split at h
   ·simp at h
   ·rename_i hyy;obtain⟨e1,e2⟩:=xF x' y p h hp hyy;refine⟨by simp,fun j fp w0 F0 w hh=>?_⟩
    obtain⟨fp',g1,g2⟩:=hh;exact⟨fp',e2 j fp' w0 F0 w0 g1,g2⟩
  ·simp at h
theorem pn {K:Nat->Prop} {all:List aC}:∀(l m:List aC) (p:List Prop),ph all l m=some p->h9 p->∀i,known m i->known l i/\
  ∀j fp w0 F0 w,(ar l i).holds K J j fp w0 F0 w->(ar m i).holds (known all) J j fp w0 F0 w
 |_,[],_,_,_,i,hi=>by simp[known,ar]at hi
 | [],y::m,p,h,hp,i,hi=>by
   simp only[ph]at h;split at h
   ·cases i with
    |zero=>simp[known,ar]at hi
    |succ i=>
     obtain⟨h1,h2⟩:=pn (K:=K) [] m p h hp i hi;simp[known,ar]at h1
   ·simp at h
 |x::l,y::m,p,h,hp,i,hi=>by
  have key:∀(q:List Prop),ph all l m=some q->h9 q->(y≠ .yet->x≠ .yet/\∀j fp w0 F0 w,x.holds K J j fp w0 F0 w->y.holds (known all) J j fp w0 F0 w)->
    known (x::l) i/\∀j fp w0 F0 w,(ar (x::l) i).holds K J j fp w0 F0 w->(ar (y::m) i).holds (known all) J j fp w0 F0 w:=by
   intro q hq hq' hz;cases i with
   |zero=>exact hz hi
   |succ i=>exact pn l m q hq hq' i hi
  simp only[ph]at h;split at h
  ·exact key p h hp fun hh=>absurd rfl hh
  ·rename_i hy;obtain⟨u,v,h1,h2,h3,h4⟩:=ju h hp;exact key v h2 h4 fun hy'=>xF x y u h1 h3 hy'
theorem Jg {a c:List V} {l:List Prop} (h:qt a c=some l):yJ a=yJ c:=by
 match a,c with
 | [],[]=>rfl
 | [],_::_=>simp[qt]at h
 |_::_,[]=>simp[qt]at h
 | [x],[y]=>
   simp only[qt]at h;unfold oH at h;split at h<;>simp only[VI,reduceCtorEq]at h
   rename_i hx _;unfold yJ
   cases x<;>cases y<;>simp only[uL,reduceCtorEq]at hx<;>first
    |rfl
    | (have hb:=VM.1 (eV hx).1;subst hb;rfl)
 | [x],y::z::m=>
   simp only[qt,oH]at h;split at h<;>simp_all
 |x::z::m,[y]=>
  simp only[qt,oH]at h;split at h<;>simp_all
 |_::_::_,_::_::_=>rfl
theorem r9 {K:Nat->Prop} {res:List aC}:∀(l m:List (Nat×List V×List V)) (p:List Prop),qc res l m=some p->h9 p->(∀d∈l,eH K d.2.1/\eH K d.2.2)->
  l.flatMap (j5 J)=m.flatMap (j5 J)/\∀d∈m,eH (known res) d.2.1/\eH (known res) d.2.2
 | [],[],_,_,_,_=>⟨rfl,by simp⟩
 | [],_::_,_,h,_,_=>by simp[qc]at h
 |_::_,[],_,h,_,_=>by simp[qc]at h
 | (f,a,b)::l,(g,c,d)::m,p,h,hp,hk=>by
   simp only[qc]at h;split at h
   ·rename_i hc;simp only[VK,VM]at hc;obtain⟨⟨rfl,w1⟩,w2⟩:=hc;obtain⟨u,v,h1,h2,h3,h4⟩:=ju h hp;obtain⟨u1,u2,i1,i2,i3,i4⟩:=ju h1 h3;obtain⟨e1,_,e2,_⟩:=lD J K a c u1 i1 i3;obtain⟨f1,_,f2,_⟩:=lD J K b d u2 i2 i4;obtain⟨g1,g2⟩:=r9 l m v h2 h4 fun d hd=>hk d (by simp[hd])
    have hk0:=hk (f,a,b) (by simp)
    have hde:j5 J (f,a,b)=j5 J (f,c,d):=by
     have hm:=Jg i1;unfold j5;simp only[<-hm];cases yJ a<;>simp[e1,f1]
    refine⟨by rw[List.flatMap_cons,List.flatMap_cons,hde,g1],fun d' hd'=>?_⟩
    rcases List.mem_cons.1 hd' with rfl|hd'
    ·exact⟨gD _ w1 (e2 hk0.1),gD _ w2 (f2 hk0.2)⟩
    ·exact g2 d' hd'
   ·simp at h
theorem Sub.rep {U τ:St} (h:Sub U τ) (hr:jS J fps U w0 F0 a w):jS J fps τ w0 F0 a w/\∀i,known τ.res i->known U.res i:=by
 unfold Sub at h;split at h
 ·rename_i l hl;obtain⟨u,v,h1,h2,h3,h4⟩:=ju hl h;obtain⟨v1,v2,i1,i2,i3,i4⟩:=ju h2 h4;obtain⟨r1,r2,r3,r4⟩:=hr;obtain⟨s1,s2⟩:=qC (J:=J) (K:=known U.res) (sl0:=U.slots) _ _ u h1 h3;have hres:=fun i hi=>pn (J:=J) (K:=known U.res) _ _ v1 i1 i3 i hi
  obtain⟨d1,d2⟩:=r9 (J:=J) (K:=known U.res) _ _ v2 i2 i4 r4;refine⟨⟨⟨by rw[<-s1];exact r1.1,fun t=>(s2 t _ (r1.2 t)).ok⟩,?_,by rw[r3,d1],d2⟩,fun i hi=>(hres i hi).1⟩
  have hk:∀i,known τ.res i->known U.res i:=fun i hi=>(hres i hi).1
  exact⟨fun i hi=>hi,r2.old,r2.os,r2.tape,r2.output,fun i hi=>(hres i hi).2 _ _ _ _ _ (r2.holds i (hk i hi)),fun i b hi=>r2.lt i b (hk i hi),
   fun i j b hi hj=>r2.disj i j b (hk i hi) (hk j hj),fun i b hi=>r2.inF i b (hk i hi),r2.same⟩
 ·exact h.elim
end
end Go.Sx
namespace Go.Sx
open Go.RowKit (Below)
def I8:List V->Option (List Obj)
 | []=>some []
 |v::l=>match v with
  | .ob o=>match I8 l with
    |some m=>some (o::m)
    |none=>none
  |_=>none
theorem yH:∀{l:List V} {L:List Obj},I8 l=some L->l=L.map V.ob
 | [],L,h=>by simp only[I8,VI]at h;subst h;rfl
 |v::l,L,h=>by
  simp only[I8]at h;split at h
  ·split at h<;>simp only[VI,reduceCtorEq]at h
   rename_i o m hm;subst h;rw[yH hm];rfl
  ·simp at h
theorem xe (J:Env) (L:List Obj):aZ J (L.map V.ob)=(TL.ob L).cells:=by
 unfold TL.cells;rw[tG]
 have h:∀M:List Obj,(M.map V.ob).flatMap (cells J)=(List.range M.length).flatMap fun j=>cells Env.zero (.ob (aq M j free)):=by
  intro M;induction M with
  |nil=>rfl
  |cons o M ih=>
   rw[List.map_cons,List.flatMap_cons,ih,List.length_cons,List.range_succ_eq_map,List.flatMap_cons,List.flatMap_map];congr 1
 exact h L
def Mn (x:V):Option (List Obj):=
 match x with
 | .ag l=>I8 l
 | .ob o=>some [o]
 |_=>none
theorem Gj {x:V} {L:List Obj} {N:Nat->Prop} (h:Mn x=some L) (hx:ok N x):(∀J,cells J x=(TL.ob L).cells)/\∀j,j<L.length->(aq L j free).wf:=by
 unfold Mn at h;split at h
 ·have:=yH h;subst this;refine⟨fun J=>by rw[eJ,xe],fun j hj=>?_⟩
  have:=(fZ _).1 hx.1 (.ob (L[j])) (by simp)
  have this:(L[j]).wf:=this;simpa[aq,VP,hj]using this
 ·rename_i o;simp only[VI]at h;subst h;refine⟨fun J=>?_,fun j hj=>?_⟩
  ·have:=xe J [o];rw[<-this];simp[aZ,cells]
  ·have:j=0:=by simp at hj;omega
   subst this;exact hx
 ·simp at h
end Go.Sx
namespace Go.Sx
open Go.RowKit (Below)
mutual
def eZ (κ:Nat->Option Nat):V->Option V
 | .lp i off=>match κ i with
   |some j=>some (.lp j off)
   |none=>none
 | .lx i off esz n k inner=>match κ i with
   |some j=>some (.lx j off esz n k inner)
   |none=>none
 | .sc i len cap=>match κ i with
   |some j=>some (.sc j len cap)
   |none=>none
 | .so i len=>match κ i with
   |some j=>some (.so j len)
   |none=>none
 | .ap i esz k off=>match κ i with
   |some j=>some (.ap j esz k off)
   |none=>none
 | .sa i=>match κ i with
   |some j=>some (.sa j)
   |none=>none
 | .op i k=>match κ i with
   |some j=>some (.op j k)
   |none=>none
 | .yl i=>match κ i with
   |some j=>some (.yl j)
   |none=>none
 | .mp i=>match κ i with
   |some j=>some (.mp j)
   |none=>none
 | .ch _ _ _ _=>none
 | .ax _ _ _ _ _ _ _ _=>none
 | .bs _ _ _=>none
 | .ks _ _ _ _ _=>none
 | .fn f l=>match dS κ l with
   |some m=>some (.fn f m)
   |none=>none
 | .ic t x=>match eZ κ x with
   |some y=>some (.ic t y)
   |none=>none
 | .ag l=>match dS κ l with
   |some m=>some (.ag m)
   |none=>none
 | .tp l=>match dS κ l with
   |some m=>some (.tp m)
   |none=>none
 | .cb b=>some (.cb b)
 | .bo b=>some (.bo b)
 | .ci k n=>some (.ci k n)
 | .it k n=>some (.it k n)
 | .bt b=>some (.bt b)
 | .st s=>some (.st s)
 | .nl v=>some (.nl v)
 | .key k=>some (.key k)
 | .sl s=>some (.sl s)
 | .by b=>some (.by b)
 | .ob o=>some (.ob o)
def dS (κ:Nat->Option Nat):List V->Option (List V)
 | []=>some []
 |x::l=>match eZ κ x with
  |some y=>match dS κ l with
   |some m=>some (y::m)
   |none=>none
  |none=>none
end
def Env.via (κ:Nat->Option Nat) (J ρ':Env):Prop:=∀p i,κ p=some i->ρ'.num i=J.num p/\ρ'.cap i=J.cap p/\ρ'.adr i=J.adr p/\ρ'.sa i=J.sa p/\ρ'.sn i=J.sn p/\ρ'.ob i=J.ob p
section
variable {κ:Nat->Option Nat} {J ρ':Env} {N N':Nat->Prop}
mutual
theorem jz (hv:Env.via κ J ρ') (hN:∀p i,κ p=some i->N p->N' i):∀v v',eZ κ v=some v'->den ρ' v'=den J v/\(ok N v->ok N' v')/\bO v'=bO v
 | .lp i off,v',h=>by
   simp only[eZ]at h;split at h<;>simp only[VI,reduceCtorEq]at h
   rename_i j hj;subst h;exact⟨by simp only[den,(hv i j hj).1],fun hk=>hN i j hj hk,rfl⟩
 | .lx i off esz n k inner,v',h=>by
   simp only[eZ]at h;split at h<;>simp only[VI,reduceCtorEq]at h
   rename_i j hj;subst h;exact⟨by simp only[den,(hv i j hj).1],fun hk=>⟨hN i j hj hk.1,hk.2⟩,rfl⟩
 | .sc i len cap,v',h=>by
   simp only[eZ]at h;split at h<;>simp only[VI,reduceCtorEq]at h
   rename_i j hj;subst h;exact⟨by simp only[den,(hv i j hj).1],fun hk=>hN i j hj hk,rfl⟩
 | .so i len,v',h=>by
   simp only[eZ]at h;split at h<;>simp only[VI,reduceCtorEq]at h
   rename_i j hj;subst h;exact⟨by simp only[den,(hv i j hj).1,(hv i j hj).2.1],fun hk=>hN i j hj hk,rfl⟩
 | .ap i esz k off,v',h=>by
   simp only[eZ]at h;split at h<;>simp only[VI,reduceCtorEq]at h
   rename_i j hj;subst h;exact⟨by simp only[den,(hv i j hj).2.2.1],fun hk=>hN i j hj hk,rfl⟩
 | .sa i,v',h=>by
   simp only[eZ]at h;split at h<;>simp only[VI,reduceCtorEq]at h
   rename_i j hj;subst h;exact⟨by simp only[den,(hv i j hj).2.1,(hv i j hj).2.2.2.1,(hv i j hj).2.2.2.2.1],fun hk=>hN i j hj hk,rfl⟩
 | .yl i,v',h=>by
   simp only[eZ]at h;split at h<;>simp only[VI,reduceCtorEq]at h
   rename_i j hj;subst h;exact⟨by simp only[den,(hv i j hj).1],fun hk=>hN i j hj hk,rfl⟩
 | .mp i,v',h=>by
   simp only[eZ]at h;split at h<;>simp only[VI,reduceCtorEq]at h
   rename_i j hj;subst h;exact⟨by simp only[den,(hv i j hj).1],fun hk=>hN i j hj hk,rfl⟩
 | .ch b f l y,v',h=>by simp[eZ]at h
 | .ax _ _ _ _ _ _ _ _,v',h=>by simp[eZ]at h
 | .bs _ _ _,v',h=>by simp[eZ]at h
 | .ks _ _ _ _ _,v',h=>by simp[eZ]at h
 | .op i k,v',h=>by
   simp only[eZ]at h;split at h<;>simp only[VI,reduceCtorEq]at h
   rename_i j hj;subst h;exact⟨by simp only[den,(hv i j hj).2.2.2.2.2],fun hk=>hN i j hj hk,rfl⟩
 | .fn f l,v',h=>by
   simp only[eZ]at h;split at h<;>simp only[VI,reduceCtorEq]at h
   rename_i m hm;subst h;obtain⟨a,_,c,_⟩:=gE hv hN l m hm;exact⟨by simp only[den,a],c,rfl⟩
 | .ic t x,v',h=>by
   simp only[eZ]at h;split at h<;>simp only[VI,reduceCtorEq]at h
   rename_i m hm;subst h;obtain⟨a,c,_⟩:=jz hv hN x m hm;exact⟨by simp only[den,a],c,rfl⟩
 | .ag l,v',h=>by
   simp only[eZ]at h;split at h<;>simp only[VI,reduceCtorEq]at h
   rename_i m hm;subst h;obtain⟨_,b,c,d⟩:=gE hv hN l m hm;exact⟨by simp only[den,b],fun hk=>⟨c hk.1,d hk.2⟩,rfl⟩
 | .tp l,v',h=>by
   simp only[eZ]at h;split at h<;>simp only[VI,reduceCtorEq]at h
   rename_i m hm;subst h;obtain⟨a,_,c,_⟩:=gE hv hN l m hm;exact⟨by simp only[den,a],c,rfl⟩
 | .cb b,v',h| .bo b,v',h| .ci _ b,v',h| .it _ b,v',h| .bt b,v',h| .st b,v',h| .nl b,v',h| .key b,v',h| .sl b,v',h| .by b,v',h| .ob b,v',h=>by
   simp only[eZ,VI]at h;subst h;exact⟨rfl,id,rfl⟩
theorem gE (hv:Env.via κ J ρ') (hN:∀p i,κ p=some i->N p->N' i):∀l l',dS κ l=some l'->bj ρ' l'=bj J l/\aZ ρ' l'=aZ J l/\(eH N l->eH N' l')/\(qB l->qB l')
 | [],l',h=>by simp only[dS,VI]at h;subst h;exact⟨rfl,rfl,id,id⟩
 |x::l,l',h=>by
  simp only[dS]at h;split at h
  ·rename_i y hy;split at h<;>simp only[VI,reduceCtorEq]at h
   rename_i m hm;subst h;obtain⟨a1,a2,a3⟩:=jz hv hN x y hy;obtain⟨b1,b2,b3,b4⟩:=gE hv hN l m hm;refine⟨by simp only[bj,a1,b1],by simp only[aZ,a1,b2],fun hk=>⟨a2 hk.1,b3 hk.2⟩,fun hk=>?_⟩
   rw[cN]at hk⊢;intro z hz;rcases List.mem_cons.1 hz with rfl|hz
   ·rw[a3];exact hk x (by simp)
   ·exact(cN _).1 (b4 ((cN _).2 fun q hq=>hk q (by simp[hq]))) z hz
  ·simp at h
end
theorem ly {κ:Nat->Option Nat}:∀{l l':List V},dS κ l=some l'->l'.length=l.length
 | [],l',h=>by simp only[dS,VI]at h;subst h;rfl
 |x::l,l',h=>by
  simp only[dS]at h;split at h
  ·split at h<;>simp only[VI,reduceCtorEq]at h
   rename_i m hm;subst h;simp[ly hm]
  ·simp at h
def fW (κ:Nat->Option Nat):aC->aC
 | .yet=> .yet
 | .gone=> .gone
 | .blk ty c=>match eZ κ c with
   |some c'=> .blk ty c'
   |none=> .gone
 | .arr o e l=> .arr o e l
 | .obs ty q L=>match κ q with
   |some q'=> .obs ty q' L
   |none=> .gone
 | .gen j=>match κ j with
   |some j'=> .gen j'
   |none=> .gone
 | .store ty e L=> .store ty e L
 | .lop r s j=> .lop r s j
 | .dfr=> .dfr
 | .mp k ks vs=>match dS κ vs with
   |some vs'=> .mp k ks vs'
   |none=> .gone
 | .mq ks vs=>match dS κ vs with
   |some vs'=> .mq ks vs'
   |none=> .gone
 | .ro r=> .ro (fW κ r)
theorem kF {r:aC}:fW κ r= .yet↔r= .yet:=by
 cases r<;>simp only[fW]<;>(try split)<;>simp
theorem gR (hv:Env.via κ J ρ') (hN:∀p i,κ p=some i->N p->N' i) {p i:Nat} (hp:κ p=some i) {w0:World} {F0:Nat->Prop}:∀(r:aC) (fp:Nat->Prop) (w:World),r.holds N J p fp w0 F0 w->(fW κ r).holds N' ρ' i fp w0 F0 w
 | .yet,fp,w,h=>trivial
 | .gone,fp,w,h=>trivial
 | .gen j,fp,w,h=>by simp only[fW];split<;>trivial
 | .blk ty c,fp,w,h=>by
   simp only[fW];split
   ·rename_i c' hc;obtain⟨h1,h2,h3,h4⟩:=h;obtain⟨a,b,d⟩:=jz hv hN c c' hc;have e:=(hv p i hp).1;exact⟨b h1,by rw[d];exact h2,by rw[e];exact h3,by rw[e];simp only[cells,a];exact h4⟩
   ·trivial
 | .arr o e l,fp,w,h=>by
   obtain⟨e1,e2,e3,e4,e5,e6⟩:=hv p i hp;obtain⟨h1,h2,h3,h4,h5,h6,h7⟩:=h;have hsl:ρ'.sl i=J.sl p:=by simp only[Env.sl,e2,e4,e5]
   refine⟨h1,by rw[e5];exact h2,h3,by rw[e4,e3];exact h4,by rw[e4];exact h5,by rw[e3];exact h6,?_⟩
   rcases h7 with⟨g1,g2,g3⟩|⟨x,g1,g2,g3⟩
   ·refine .inl ⟨g1,by rw[e3];exact g2,fun j hj k hk=>?_⟩
    rw[e3,g3 j hj k hk,cQ (N:=fun _=>False) (J:=J) (ρ':=ρ') (fun _ h=>h.elim) _ (h1 j hj).1]
   ·exact .inr ⟨x,g1,by rw[hsl];exact g2,by rw[e4];exact g3⟩
 | .obs ty q L,fp,w,h=>by
   simp only[fW];split
   ·rename_i q' hq;obtain⟨e1,e2,e3,e4,e5,e6⟩:=hv p i hp;obtain⟨h0,h1,h2,h3,h4,h5,h6,h7⟩:=h;have hsl:ρ'.sl i=J.sl p:=by simp only[Env.sl,e2,e4,e5]
    have eq6:=(hv q q' hq).2.2.2.2.2;exact⟨hN q q' hq h0,h1,by rw[e5];exact h2,h3,by rw[e4,e3];exact h4,by rw[e4];exact h5,by rw[hsl,eq6];exact h6,by rw[eq6];exact h7⟩
   ·trivial
 | .store ty e L,fp,w,h=>by
   have e:=(hv p i hp).1;obtain⟨h0,h1,h2,sl,ob,h3,h5,h6,h7⟩:=h;exact⟨by rw[e];exact h0,h1,h2,sl,ob,by rw[e];exact h3,h5,by rw[e];exact h6,by rw[e];exact h7⟩
 | .lop r s j,fp,w,h=>by
   have e:=(hv p i hp).1;exact⟨by rw[e];exact h.1,by rw[e];exact h.2⟩
 | .dfr,fp,w,h=>by
   have e1:=(hv p i hp).2.2.2.2.1;have e2:=(hv p i hp).2.2.2.2.2;exact⟨fun j hj=>by rw[e1]at hj;rw[e2];exact h.1 j hj,by rw[e1,e2];exact h.2⟩
 | .mp k ks vs,fp,w,h=>by
   simp only[fW];split
   ·rename_i vs' hvs;obtain⟨h0,h1,h2,h3,h4,es,cl,h5,h6,h7⟩:=h;obtain⟨a,_,c,d⟩:=gE hv hN vs vs' hvs;have e:=(hv p i hp).1;exact⟨by rw[e];exact h0,c h1,d h2,h3,by rw[ly hvs];exact h4,es,cl,by rw[e];exact h5,h6,by rw[a];exact h7⟩
   ·trivial
 | .mq ks vs,fp,w,h=>by
   simp only[fW];split
   ·rename_i vs' hvs;obtain⟨h0,h1,h2,h4,es,cl,h5,h7⟩:=h;obtain⟨a,_,c,d⟩:=gE hv hN vs vs' hvs;have e:=(hv p i hp).1;exact⟨by rw[e];exact h0,c h1,d h2,by rw[ly hvs];exact h4,es,cl,by rw[e];exact h5,by rw[a];exact h7⟩
   ·trivial
 | .ro r,fp,w,h=>by
   obtain⟨fp',h1,h2⟩:=h;exact⟨fp',gR hv hN hp r fp' w0 h1,h2⟩
end
def idxOf:List Nat->Nat->Nat->Option Nat
 | [],_,_=>none
 |x::l,n,p=>if x==p then some n else idxOf l (n+1) p
def kz (n:Nat) (l:List Nat) (p:Nat):Option Nat:=if Nat.blt p n then some p else idxOf l n p
def src (n:Nat) (l:List Nat) (i:Nat):Nat:=if i<n then i else l.getD (i-n) i
theorem gI:∀{l:List Nat} {n p i:Nat},idxOf l n p=some i->n<=i/\i<n+l.length/\l[i-n]? =some p
 | [],n,p,i,h=>by simp[idxOf]at h
 |x::l,n,p,i,h=>by
  simp only[idxOf]at h;split at h
  ·rename_i e;have e:=VM.1 e;simp only[VI]at h;subst h;subst e;simp
  ·obtain⟨h1,h2,h3⟩:=gI h;refine⟨by omega,by simp;omega,?_⟩
   rw[show i-n=(i-(n+1))+1 by omega]
   simpa using h3
theorem Es {n:Nat} {l:List Nat} {p i:Nat} (h:kz n l p=some i):src n l i=p:=by
 unfold kz at h;unfold src;split at h
 ·rename_i hp;simp only[VI]at h;subst h;rw[VR (by simpa using hp)]
 ·obtain⟨h1,h2,h3⟩:=gI h;rw[VQ (by omega),VP,h3];rfl
def Env.pull (π:Nat->Nat) (J:Env):Env:= {num:=fun i=>J.num (π i),cap:=fun i=>J.cap (π i),adr:=fun i=>J.adr (π i),sa:=fun i=>J.sa (π i),sn:=fun i=>J.sn (π i),ob:=fun i=>J.ob (π i)}
theorem rU {π:Nat->Nat} {κ:Nat->Option Nat} {J:Env} (h:∀p i,κ p=some i->π i=p):Env.via κ J (J.pull π):=fun p i hp=>by
 have:=h p i hp;simp[Env.pull,this]
def mW (κ:Nat->Option Nat) (all:List aC):Nat->List aC->List aC
 |0,_=> []
 |_+1,[]=> []
 |n+1,r::l=>fW κ r::mW κ all n l
def gm (κ:Nat->Option Nat) (all:List aC):List Nat->List aC
 | []=> []
 |p::l=>fW κ (ar all p)::gm κ all l
def ou (κ:Nat->Option Nat):List S->List S
 | []=> []
 |s::l=>(match s with
  | .v x=>match eZ κ x with
    |some y=> .v y
    |none=> .und
  |_=> .und)::ou κ l
def wJ (κ:Nat->Option Nat):List (Nat×List V×List V)->Option (List (Nat×List V×List V))
 | []=>some []
 | (f,a,b)::l=>match dS κ a,dS κ b,wJ κ l with
   |some a',some b',some m=>some ((f,a',b')::m)
   |_,_,_=>none
def pG:List Nat->Nat->Bool
 | [],_=>false
 |x::l,p=>x==p||pG l p
def iU (n m:Nat):List Nat->Bool
 | []=>true
 |p::l=>Nat.ble n p&&Nat.blt p m&& !pG l p&&iU n m l
def QC (n:Nat) (ext:List Nat) (U:St):Option St:=
 if Nat.ble n U.res.length&&iU n U.res.length ext then
  match wJ (kz n ext) U.defs with
  |some ds=>some {slots:=ou (kz n ext) U.slots,res:=mW (kz n ext) U.res n U.res++gm (kz n ext) U.res ext,defs:=ds}
  |none=>none
 else none
theorem tZ (κ:Nat->Option Nat) (all:List aC):∀(n:Nat) (l:List aC) (i:Nat),n<=l.length->i<n->ar (mW κ all n l) i=fW κ (ar l i)
 |0,_,i,_,h=>by omega
 |n+1,[],i,h,_=>by simp at h
 |n+1,r::l,0,h,_=>rfl
 |n+1,r::l,i+1,h,hi=>by
  simp only[mW,ar];exact tZ κ all n l i (by simpa using h) (by omega)
theorem qF (κ:Nat->Option Nat) (all:List aC):∀(n:Nat) (l:List aC),n<=l.length->(mW κ all n l).length=n
 |0,_,_=>rfl
 |n+1,[],h=>by simp at h
 |n+1,r::l,h=>by simp[mW,qF κ all n l (by simpa using h)]
theorem o7 (κ:Nat->Option Nat) (all:List aC):∀(l:List Nat) (k:Nat),ar (gm κ all l) k=match l[k]? with|some p=>fW κ (ar all p)|none=> .yet
 | [],k=>by simp[gm,ar]
 |p::l,0=>by simp[gm,ar]
 |p::l,k+1=>by simp[gm,ar,o7 κ all l k]
theorem EZ:∀{l:List Nat} {p:Nat},pG l p=true↔p∈l
 | [],p=>by simp[pG]
 |x::l,p=>by
  simp only[pG,Bool.or_eq_true,VM,EZ (l:=l),List.mem_cons];exact or_congr_left eq_comm
theorem nS {n m:Nat}:∀{l:List Nat},iU n m l=true->(∀p∈l,n<=p/\p<m)/\l.Nodup
 | [],_=>by simp
 |p::l,h=>by
  simp only[iU,VK,Nat.ble_eq,Nat.blt_eq,Bool.not_eq_true']at h;obtain⟨⟨⟨h1,h2⟩,h3⟩,h4⟩:=h;obtain⟨a,b⟩:=nS h4;refine⟨fun q hq=>?_,List.nodup_cons.2 ⟨fun hp=>?_,b⟩⟩
  ·rcases List.mem_cons.1 hq with rfl|hq
   ·exact⟨h1,h2⟩
   ·exact a q hq
  ·rw[<-EZ]at hp;rw[hp]at h3;simp at h3
theorem o0 (κ:Nat->Option Nat):∀l:List S,(ou κ l).length=l.length
 | []=>rfl
 |s::l=>by simp[ou,o0 κ l]
theorem su (κ:Nat->Option Nat):∀(l:List S) (t:Nat),bF (ou κ l) t=match bF l t with
  | .v x=>(match eZ κ x with|some y=> .v y|none=> .und)
  |_=> .und
 | [],t=>by simp[ou,bF]
 |s::l,0=>by cases s<;>rfl
 |s::l,t+1=>by simp only[ou,bF];exact su κ l t
theorem Gw {κ:Nat->Option Nat} {a a':List V} (h:dS κ a=some a'):(yJ a=none/\yJ a'=none)\/∃k k',yJ a=some k/\κ k=some k'/\yJ a'=some k':=by
 match a with
 | []=>simp only[dS,VI]at h;subst h;exact .inl ⟨rfl,rfl⟩
 | [x]=>
   simp only[dS]at h;split at h<;>simp only[VI,reduceCtorEq]at h
   rename_i y hy;subst h
   cases x<;>simp only[eZ]at hy<;>(try split at hy)<;>simp only[VI,reduceCtorEq]at hy<;>subst hy<;>first
    |exact .inl ⟨rfl,rfl⟩
    | (rename_i k _ k' hk;exact .inr ⟨k,k',rfl,hk,rfl⟩)
 |x::z::m=>
  have hl:=ly h;match a',hl with
  | [],hl=>simp at hl
  | [_],hl=>simp at hl
  |_::_::_,_=>exact .inl ⟨rfl,rfl⟩
theorem oQ {κ:Nat->Option Nat} {J ρ':Env} {N N':Nat->Prop} (hv:Env.via κ J ρ') (hN:∀p i,κ p=some i->N p->N' i):∀(l m:List (Nat×List V×List V)),wJ κ l=some m->
  m.flatMap (j5 ρ')=l.flatMap (j5 J)/\((∀d∈l,eH N d.2.1/\eH N d.2.2)->∀d∈m,eH N' d.2.1/\eH N' d.2.2)
 | [],m,h=>by simp only[wJ,VI]at h;subst h;exact⟨rfl,fun _=>by simp⟩
 | (f,a,b)::l,m,h=>by
   simp only[wJ]at h;split at h<;>simp only[VI,reduceCtorEq]at h
   rename_i a' b' m' ha hb hm;subst h;obtain⟨a1,_,a3,_⟩:=gE hv hN a a' ha;obtain⟨b1,_,b3,_⟩:=gE hv hN b b' hb;obtain⟨c1,c2⟩:=oQ hv hN l m' hm
   have hde:j5 ρ' (f,a',b')=j5 J (f,a,b):=by
    unfold j5;rcases Gw ha with⟨h1,h2⟩|⟨k,k',h1,h2,h3⟩
    ·simp only[h1,h2,a1,b1]
    ·simp only[h1,h3,(hv k k' h2).2.2.2.2.1,(hv k k' h2).2.2.2.2.2]
   refine⟨by rw[List.flatMap_cons,List.flatMap_cons,hde,c1],fun hk d hd=>?_⟩
   rcases List.mem_cons.1 hd with rfl|hd
   ·have h0:=hk (f,a,b) (by simp)
    exact⟨a3 h0.1,b3 h0.2⟩
   ·exact c2 (fun d hd=>hk d (by simp[hd])) d hd
theorem Jb {J:Env} {fps:Nat->Nat->Prop} {w0 w:World} {F0:Nat->Prop} {a:Act} {n:Nat} {ext:List Nat} {U σ':St} (h:QC n ext U=some σ') (hr:jS J fps U w0 F0 a w):
  ∃ρ' fps',jS ρ' fps' σ' w0 F0 a w/\∀i,i<n->ρ'.num i=J.num i/\ρ'.cap i=J.cap i/\ρ'.adr i=J.adr i/\ρ'.sa i=J.sa i/\ρ'.sn i=J.sn i/\ρ'.ob i=J.ob i:=by
 unfold QC at h;split at h
 ·rename_i hc;simp only[VK,Nat.ble_eq]at hc;obtain⟨hn,he⟩:=hc;obtain⟨e1,e2⟩:=nS he;split at h<;>simp only[VI,reduceCtorEq]at h
  rename_i ds hds;subst h;obtain⟨r1,r2,r3,r4⟩:=hr;generalize hκ:kz n ext=κ at *
  have hπ:∀p i,κ p=some i->src n ext i=p:=fun p i hp=>by subst hκ;exact Es hp
  have hv:Env.via κ J (J.pull (src n ext)):=rU hπ
  have hget:∀i,ar (mW κ U.res n U.res++gm κ U.res ext) i=if i<n then fW κ (ar U.res i)else match ext[i-n]? with|some p=>fW κ (ar U.res p)|none=> .yet:=fun i=>by
   rw[bL,qF κ _ n _ hn];by_cases hi:i<n
   ·rw[VR hi,VR hi,tZ κ _ n _ i hn hi]
   ·rw[VQ hi,VQ hi,o7]
  have hkn:∀i,known (mW κ U.res n U.res++gm κ U.res ext) i->known U.res (src n ext i)/\κ (src n ext i)=some i/\ar (mW κ U.res n U.res++gm κ U.res ext) i=fW κ (ar U.res (src n ext i)):=fun i hi=>by
   unfold known at hi;rw[hget]at hi⊢;unfold src;by_cases hin:i<n
   ·rw[VR hin]at hi⊢;rw[VR hin];refine⟨fun e=>hi (kF.2 e),?_,rfl⟩
    subst hκ;unfold kz;rw[VR (by simpa using hin)]
   ·rw[VQ hin]at hi⊢;rw[VQ hin,VP];cases hx:ext[i-n]? with
    |none=>rw[hx]at hi;exact absurd rfl hi
    |some p=>
     rw[hx]at hi;simp only[Option.getD_some];refine⟨fun e=>hi (kF.2 e),?_,trivial⟩
     subst hκ;unfold kz;have hp:=e1 p (List.mem_of_getElem? hx);rw[VQ (by simp;omega)]
     have:∀(l:List Nat) (m k:Nat),l.Nodup->l[k]? =some p->idxOf l m p=some (m+k):=by
      intro l;induction l with
      |nil=>intro m k _ h;simp at h
      |cons x l ih=>
       intro m k hnd h;simp only[idxOf];cases k with
       |zero=>simp at h;subst h;simp
       |succ k=>
        simp at h
        have hne:(x==p)=false:=by
         rw[beq_eq_false_iff_ne];rintro rfl
         exact(List.nodup_cons.1 hnd).1 (List.mem_of_getElem? h)
        rw[hne];simp only[Bool.false_eq_true,if_false];rw[ih (m+1) k (List.nodup_cons.1 hnd).2 h];congr 1;omega
     rw[this ext n (i-n) e2 hx];congr 1;omega
  have hN:∀p i,κ p=some i->known U.res p->known (mW κ U.res n U.res++gm κ U.res ext) i:=fun p i hp hk=>by
   unfold known;rw[hget];have hs:=hπ p i hp;unfold src at hs;by_cases hin:i<n
   ·rw[VR hin]at hs⊢;subst hs;exact fun e=>hk (kF.1 e)
   ·rw[VQ hin]at hs⊢;subst hκ;unfold kz at hp;split at hp
    ·simp only[VI]at hp;rename_i hb;simp at hb;omega
    ·obtain⟨_,_,h3⟩:=gI hp;rw[h3];exact fun e=>hk (kF.1 e)
  refine⟨J.pull (src n ext),fun i=>fps (src n ext i),⟨⟨by simpa[o0]using r1.1,fun t=>?_⟩,?_,?_,?_⟩,fun i hi=>?_⟩
  ·rw[su];have:=r1.2 t;split
   ·rename_i x hx;rw[hx]at this;split
    ·rename_i y hy;obtain⟨a1,a2,_⟩:=jz hv hN x y hy;exact⟨this.1.trans a1.symm,a2 this.2⟩
    ·trivial
   ·trivial
  ·refine⟨fun i hi=>hi,r2.old,r2.os,r2.tape,r2.output,fun i hi=>?_,fun i b hi=>r2.lt _ b (hkn i hi).1,fun i j b hi hj hne=>r2.disj _ _ b (hkn i hi).1 (hkn j hj).1 fun e=>hne ?_,fun i b hi=>r2.inF _ b (hkn i hi).1,r2.same⟩
   ·obtain⟨a1,a2,a3⟩:=hkn i hi;rw[a3];exact gR hv hN a2 _ _ _ (r2.holds _ a1)
   ·have a:=(hkn i hi).2.1;rw[e,(hkn j hj).2.1]at a;simpa using a.symm
  ·obtain⟨a1,_⟩:=oQ hv hN _ _ hds;rw[r3];exact a1.symm
  ·exact(oQ hv hN _ _ hds).2 r4
  ·simp[Env.pull,src,hi]
 ·simp at h
inductive Gh where
 |bl (c ty:Nat)
 |bv (c e esz:Nat) (l:TL)
 |sl (t e esz:Nat) (l:TL)
 |al (t:Nat)
 |li (t:Nat)
 |dm
def AU:TL->Bool
 | .ob l=>match l with| []=>true|_=>false
 | .key l=>match l with| []=>true|_=>false
 | .it _ l=>match l with| []=>true|_=>false
 | .bo l=>match l with| []=>true|_=>false
 | .st l=>match l with| []=>true|_=>false
 | .fn n _=>Nat.beq n 0
theorem Bz {l:TL} (h:AU l=true):l.len=0/\l.cells= []:=by
 cases l with
 |fn n g=>
  have:=Nat.eq_of_beq_eq_true h;subst this;exact⟨rfl,rfl⟩
 |ob l=>cases l<;>first|exact⟨rfl,rfl⟩|simp[AU]at h
 |key l=>cases l<;>first|exact⟨rfl,rfl⟩|simp[AU]at h
 |it k l=>cases l<;>first|exact⟨rfl,rfl⟩|simp[AU]at h
 |bo l=>cases l<;>first|exact⟨rfl,rfl⟩|simp[AU]at h
 |st l=>cases l<;>first|exact⟨rfl,rfl⟩|simp[AU]at h
def DC (U:St):Gh->Option St
 | .bl c ty=>match ar U.res c with
   | .blk t (.ag [.nl (.slice none 0 0)])=>some {U with res:=bw U.res c (.blk t (.ag [.sa U.res.length]))++ [.obs ty (U.res.length+1) [],.gen U.res.length]}
   |_=>none
 | .bv c e esz l=>match ar U.res c with
   | .blk t (.nl (.slice none 0 0))=>if AU l then some {U with res:=bw U.res c (.blk t (.sa U.res.length))++ [.arr (some e) esz l]}else none
   |_=>none
 | .sl t e esz l=>match bF U.slots t with
   | .v (.nl (.slice none 0 0))=>if AU l then some {U with slots:=sset (clean U.slots) t (.v (.sa U.res.length)),res:=U.res++ [.arr (some e) esz l]}else none
   |_=>none
 | .al t=>match bF U.slots t with
   | .v (.sa k)=>match ar U.res k with
     | .ro r=>match r with
       | .arr _ esz l=>some {U with slots:=sset (clean U.slots) t (.v (.sa U.res.length)),res:=U.res++ [.arr none esz l]}
       |_=>none
     | .arr own esz l=>some {U with slots:=sset (clean U.slots) t (.v (.sa U.res.length)),res:=cy [k] U.res++ [.arr own esz l]}
     |_=>none
   |_=>none
 | .li t=>match bF U.slots t with
   | .v v=>match v with
     | .sc k n c=>match ar U.res k with
       | .blk e x=>match Mn x with
         |some L=>if n==L.length&&c==n&&Nat.ble n 1000 then some {U with slots:=sset (clean U.slots) t (.v (.sa U.res.length)),res:=cy [k] U.res++ [.arr (some e) 163 (.ob L)]}else none
         |none=>none
       |_=>none
     |_=>none
   |_=>none
 | .dm=>some {U with res:=U.res++ [.dfr],defs:=(0,[.yl U.res.length],[])::U.defs}
def s9:List Gh->St->Option St
 | [],U=>some U
 |g::l,U=>match DC U g with
  |some σ'=>s9 l σ'
  |none=>none
def Env.fg (J:Env) (i:Nat):Env:= {J with cap:=fun j=>if j=i then 0 else J.cap j,sa:=fun j=>if j=i then none else J.sa j,sn:=fun j=>if j=i then 0 else J.sn j}
theorem zu {N:Nat->Prop} {J:Env} {i:Nat} (h:¬N i):Env.bg N J (J.fg i):=fun j hj=>by
 have:j≠i:=fun e=>h (e▸hj)
 simp[Env.fg,this]
def Env.ir (J:Env) (i k:Nat):Env:= {J with cap:=fun j=>if j=i then J.cap k else J.cap j,adr:=fun j=>if j=i then J.adr k else J.adr j,sa:=fun j=>if j=i then J.sa k else J.sa j,sn:=fun j=>if j=i then J.sn k else J.sn j}
theorem uu {N:Nat->Prop} {J:Env} {i k:Nat} (h:¬N i):Env.bg N J (J.ir i k):=fun j hj=>by
 have:j≠i:=fun e=>h (e▸hj)
 simp[Env.ir,this]
theorem Qf {K K':Nat->Prop} {J:Env} {i:Nat} {fp fp2:Nat->Prop} {w0 w:World} {F0:Nat->Prop} {own:Option Nat} {esz:Nat} {l:TL} (h:(aC.ro (.arr own esz l)).holds K J i fp w0 F0 w):(aC.arr none esz l).holds K' J i fp2 w0 F0 w:=by
 obtain⟨fp',⟨h1,h2,h3,h4,h5,h6,h7⟩,hf⟩:=h;refine⟨h1,h2,h3,h4,h5,h6,.inl ⟨rfl,?_⟩⟩;rcases h7 with⟨_,h7⟩|⟨e,_,e2,e3⟩
 ·exact h7
 ·refine⟨fun hl=>?_,fun j hj k hk=>?_⟩
  ·obtain⟨g,f1,f2,f3,f4⟩:=jC e2 hl;have ha:=h4 _ f1;rw[<-ha];have:=hf _ (e3 _ f1);exact⟨this.2,this.1⟩
  ·obtain⟨g,f1,f2,f3,f4⟩:=jC e2 (by omega)
   have ha:=h4 _ f1;rw[<-ha];simp only[Nat.zero_add]
   have hlt:j*esz+k<l.len*esz:=by
    have:(j+1)*esz<=l.len*esz:=Nat.mul_le_mul_right _ hj;rw[Nat.succ_mul]at this;omega
   rw[f4 _ hlt];unfold TL.cells;rw[rH (esz:=esz) (fun j hj=>by rw[aX Env.zero _ (h1 j hj).1];exact(h1 j hj).2.2) hj hk]
   rw[cQ (N:=fun _=>False) (J:=J) (ρ':=Env.zero) (fun _ h=>h.elim) _ (h1 j hj).1]
theorem Ob {J:Env} {fps:Nat->Nat->Prop} {w0:World} {F0:Nat->Prop} {w:World} {res:List aC} {k esz:Nat} {own:Option Nat} {l:TL} (h:ba J fps res (known res) w0 F0 w) (hrk:ar res k= .arr own esz l):
  ∃fps',ba (J.ir res.length k) fps' (cy [k] res++ [.arr own esz l]) (known (cy [k] res++ [.arr own esz l])) w0 F0 w/\Env.bg (known res) J (J.ir res.length k)/\(∀i,known res i->known (cy [k] res++ [.arr own esz l]) i)/\known (cy [k] res++ [.arr own esz l]) res.length:=by
 have hkk:known res k:=by unfold known;rw[hrk];simp
 have hn:¬known res res.length:=by
  unfold known;rw[jo,VP,List.getElem?_eq_none (Nat.le_refl _)];simp
 have hh:=h.holds k hkk;rw[hrk]at hh;obtain⟨a1,a2,a3,a4,a5,a6,a7⟩:=hh;have e1:(J.ir res.length k).adr res.length=J.adr k:=by simp[Env.ir]
 have e2:(J.ir res.length k).sa res.length=J.sa k:=by simp[Env.ir]
 have e3:(J.ir res.length k).sn res.length=J.sn k:=by simp[Env.ir]
 have e4:(J.ir res.length k).sl res.length=J.sl k:=by simp[Env.ir,Env.sl]
 refine h.vN [k] (.arr own esz l) [] (fps k) (by simp) (by simpa using hkk) (by simp) (uu hn) ?_ (fun b hb=> .inl ⟨k,by simp,hb⟩) rfl rfl rfl (Nat.le_refl _) (fun b _ _=>rfl)
 refine⟨a1,by rw[e3];exact a2,a3,by rw[e1,e2];exact a4,by rw[e2];exact a5,by rw[e1];exact a6,?_⟩
 rcases a7 with⟨b0,b1,b2⟩|⟨e,b1,b2,b3⟩
 ·refine .inl ⟨b0,by rw[e1];exact b1,fun j hj x hx=>?_⟩
  rw[e1,b2 j hj x hx,cQ (N:=fun _=>False) (J:=J) (ρ':=J.ir res.length k) (fun _ h=>h.elim) _ (a1 j hj).1]
 ·exact .inr ⟨e,b1,by rw[e4];exact b2,by rw[e2];exact b3⟩
theorem qN {J:Env} {i:Nat}:den (J.fg i) (.sa i)= .slice none 0 0:=by simp[den,Env.fg]
section
variable {J:Env} {fps:Nat->Nat->Prop} {w0 w:World} {F0:Nat->Prop} {a:Act}
theorem ba.beside {res:List aC} (h:ba J fps res (known res) w0 F0 w) {ρ':Env} (hag:Env.bg (known res) J ρ') (res1 new:List aC) (hl:res1.length=res.length)
  (h1:∀i,i<res.length->ar res1 i=ar res i\/(known res i/\known res1 i/\(ar res1 i).holds (known (res1++new)) ρ' i (fps i) w0 F0 w))
  (h2:∀k,k<new.length->(ar new k).holds (known (res1++new)) ρ' (res.length+k) (fun _=>False) w0 F0 w):
  ∃fps',ba ρ' fps' (res1++new) (known (res1++new)) w0 F0 w/\Env.bg (known res) J ρ'/\∀i,known res i->known (res1++new) i:=by
 have hget:∀i,ar (res1++new) i=if i<res.length then ar res1 i else ar new (i-res.length):=fun i=>by rw[bL,hl]
 have hmono:∀i,known res i->known (res1++new) i:=fun i hi=>by
  have hlt:=aG hi;unfold known;rw[hget,VR hlt];rcases h1 i hlt with e|⟨_,e,_⟩
  ·rw[e];exact hi
  ·exact e
 obtain⟨fps',g⟩:=h.turn (res':=res1++new) (K':=known (res1++new)) (fun i=>known res i/\known res1 i/\(ar res1 i).holds (known (res1++new)) ρ' i (fps i) w0 F0 w)
  (fun i=>(known res i/\known res1 i/\(ar res1 i).holds (known (res1++new)) ρ' i (fps i) w0 F0 w)\/res.length<=i) (fun i b=>i<res.length/\fps i b/\known res i) (fun i hi=>hi) hmono hag
  (fun i hi hb=>by
   have hlt:i<res.length:=by
    rcases Nat.lt_or_ge i res.length with h|h
    ·exact h
    ·exact absurd (.inr h) hb
   have hno:=fun h=>hb (.inl h)
   rcases h1 i hlt with e|e
   ·have e2:ar (res1++new) i=ar res i:=by rw[hget,VR hlt,e]
    exact⟨by unfold known at hi⊢;rw[e2]at hi;exact hi,hno,e2⟩
   ·exact absurd e hno)
  (fun i hi hb=>by
   by_cases hlt:i<res.length
   ·rcases hb with⟨b1,b2,b3⟩|hb
    ·refine⟨?_,fun b hf=> .inl ⟨i,⟨b1,b2,b3⟩,b1,hf.2.1⟩⟩
     rw[hget,VR hlt];have:(fun b=>i<res.length/\fps i b/\known res i)=fps i:=by funext b;simp[hlt,b1]
     rw[this];exact b3
    ·omega
   ·refine⟨?_,fun b hf=>absurd hf.1 hlt⟩
    rw[hget,VQ hlt];have:(fun b=>i<res.length/\fps i b/\known res i)=fun _=>False:=by funext b;simp[hlt]
    rw[this]
    have hk:i-res.length<new.length:=by
     unfold known at hi;rw[hget,VQ hlt]at hi;exact aG hi
    have:=h2 (i-res.length) hk;rw[show res.length+(i-res.length)=i by omega]at this
    exact this)
  (fun i j b _ _ hne hf hf'=>h.disj i j b hf.2.2 hf'.2.2 hne hf.2.1 hf'.2.1) rfl rfl rfl (Nat.le_refl _) (fun _ _ _=>rfl)
 exact⟨fps',g,hag,hmono⟩
theorem Hl {res:List aC} {k n e:Nat} {x:V} {L:List Obj} (hH:ba J fps res (known res) w0 F0 w) (hr:ar res k= .blk e x) (hl:Mn x=some L) (hn:n=L.length) (hs:n<=1000):
  ∃fps',ba (J.fE res.length (some ⟨J.num k,0,none⟩) n n) fps' (cy [k] res++ [.arr (some e) 163 (.ob L)]) (known (cy [k] res++ [.arr (some e) 163 (.ob L)])) w0 F0 w/\Env.bg (known res) J (J.fE res.length (some ⟨J.num k,0,none⟩) n n)/\
   (∀i,known res i->known (cy [k] res++ [.arr (some e) 163 (.ob L)]) i)/\known (cy [k] res++ [.arr (some e) 163 (.ob L)]) res.length:=by
 have hk:known res k:=by unfold known;rw[hr];simp
 have hh:=hH.holds k hk;rw[hr]at hh;obtain⟨h1,_,h3,h4⟩:=hh;obtain⟨hcells,hwf⟩:=Gj hl h1;have hcells:=hcells J;have hnk:¬known res res.length:=fun hk=>by have:=aG hk;omega
 have hlen:(TL.ob L).cells.length=n*163:=by
  unfold TL.cells;rw[hn]
  exact rv fun j hj=>by
   rw[show(TL.ob L).get j=V.ob (aq L j free)from rfl,iq];exact lG _
 have hag:=sC (N:=known res) J (i:=res.length) (a:=some ⟨J.num k,0,none⟩) (n:=n) (cap:=n) hnk
 exact hH.vN (ρ':=J.fE res.length (some ⟨J.num k,0,none⟩) n n) (w':=w) [k] (.arr (some e) 163 (.ob L)) [] (fun x=>x=J.num k) (by simp) (by simpa using hk) (by simp) hag
  (by
   refine⟨fun j hj=>⟨hwf j hj,rfl,rfl⟩,by simp[Env.fE,TL.len,hn,an],by simp only[TL.len,an];omega,fun a ha=>by simp[Env.fE]at ha⊢;exact ha.symm,fun _=>by simp[Env.fE],fun _=>by simp[Env.fE],.inr ⟨e,fun e' he=>by simpa using he.symm,?_,fun a ha=>by simp[Env.fE]at ha;rw[<-ha]⟩⟩
   rw[show(J.fE res.length (some ⟨J.num k,0,none⟩) n n).sl res.length= .slice (some ⟨J.num k,0,none⟩) n n by simp[Env.sl,Env.fE]]
   rw[hcells]at h4;refine⟨by rw[hlen,hn];rfl,.inr ⟨_,_,_,by rw[hn];rfl,Nat.zero_le _,h4,by rw[show(TL.ob L).len=L.length from rfl];exact Nat.le_refl _,by simp only[maxLen];rw[<-hn];omega,by rw[<-hn];simpa using hlen,?_⟩⟩
   have hh:(TL.ob L).len*163=n*163:=by rw[hn];rfl
   rw[hh];exact List.take_of_length_le (by simpa using Nat.le_of_eq hlen))
  (fun x hx=> .inl ⟨k,by simp,by rw[hx];exact h3⟩) rfl rfl rfl (Nat.le_refl _) (fun _ _ _=>rfl)
theorem Dz {U σ':St} {g:Gh} (h:DC U g=some σ') (hr:jS J fps U w0 F0 a w):∃ρ' fps',jS ρ' fps' σ' w0 F0 a w/\Good J U.res ρ' σ'.res:=by
 have hnk:¬known U.res U.res.length:=fun hk=>by have:=aG hk;omega
 have hag:Env.bg (known U.res) J (J.fg U.res.length):=zu hnk;have hr0:=hr;obtain⟨r1,r2,r3,r4⟩:=hr;have cell1:∀(l:List V),aZ (J.fg U.res.length) l=aZ (J.fg U.res.length) l:=fun _=>rfl
 unfold DC at h;split at h
 ·rename_i c ty;split at h<;>simp only[VI,reduceCtorEq]at h
  rename_i t hc;subst h;have hkc:known U.res c:=by unfold known;rw[hc];simp
  have hlt:=aG hkc;have hh:=r2.holds c hkc;rw[hc]at hh;obtain⟨_,_,h3,h4⟩:=hh
  have hkn:known (bw U.res c (.blk t (.ag [.sa U.res.length]))++ [.obs ty (U.res.length+1) [],.gen U.res.length]) U.res.length:=by
   unfold known;rw[bL,bS,VQ (by omega)];simp[ar]
  have hkn':known (bw U.res c (.blk t (.ag [.sa U.res.length]))++ [.obs ty (U.res.length+1) [],.gen U.res.length]) (U.res.length+1):=by
   unfold known;rw[bL,bS,VQ (by omega),show U.res.length+1-U.res.length=1 by omega];simp[ar]
  obtain⟨fps',g1,g2,g3⟩:=r2.beside hag (bw U.res c (.blk t (.ag [.sa U.res.length]))) [.obs ty (U.res.length+1) [],.gen U.res.length] (bS _ _ _)
   (fun i hi=>by
    rw[bq _ _ _ _ hlt];by_cases e:i=c
    ·subst e;refine .inr ⟨hkc,by unfold known;rw[bq _ _ _ _ hlt];simp,?_⟩
     simp only[if_true];refine⟨⟨⟨hkn,trivial⟩,trivial,trivial⟩,rfl,by rw[(hag i hkc).1];exact h3,?_⟩
     rw[(hag i hkc).1,h4];rw[eJ,eJ];simp only[aZ,qN];rfl
    ·exact .inl (by rw[VQ e]))
   (fun k hk=>by
    have:k=0\/k=1:=by simp at hk;omega
    rcases this with rfl|rfl
    ·simp only[Nat.add_zero];refine⟨hkn',by simp,by simp[Env.fg],by simp,by simp[Env.fg],by simp,?_,by simp⟩
     have:(J.fg U.res.length).sl U.res.length= .slice none 0 0:=by simp[Env.sl,Env.fg]
     rw[this];exact World.ownsRow_nil w 0 ty 1
    ·trivial)
  obtain⟨d1,d2⟩:=eC r4 g2 g3;exact⟨_,fps',⟨r1.env g3 g2,g1,by rw[r3];exact d1.symm,d2⟩,g2,g3⟩
 ·rename_i c e esz l;split at h
  ·rename_i t hc;split at h<;>simp only[VI,reduceCtorEq]at h
   rename_i hl;obtain⟨l1,l2⟩:=Bz hl;subst h;have hkc:known U.res c:=by unfold known;rw[hc];simp
   have hlt:=aG hkc;have hh:=r2.holds c hkc;rw[hc]at hh;obtain⟨_,_,h3,h4⟩:=hh
   have hkn:known (bw U.res c (.blk t (.sa U.res.length))++ [.arr (some e) esz l]) U.res.length:=by
    unfold known;rw[bL,bS,VQ (by omega)];simp[ar]
   obtain⟨fps',g1,g2,g3⟩:=r2.beside hag (bw U.res c (.blk t (.sa U.res.length))) [.arr (some e) esz l] (bS _ _ _)
    (fun i hi=>by
     rw[bq _ _ _ _ hlt];by_cases e:i=c
     ·subst e;refine .inr ⟨hkc,by unfold known;rw[bq _ _ _ _ hlt];simp,?_⟩
      simp only[if_true];refine⟨hkn,rfl,by rw[(hag i hkc).1];exact h3,?_⟩
      rw[(hag i hkc).1,h4];simp only[cells,qN];rfl
     ·exact .inl (by rw[VQ e]))
    (fun k hk=>by
     have:k=0:=by simp at hk;omega
     subst this;simp only[Nat.add_zero];have hs:(J.fg U.res.length).sl U.res.length= .slice none 0 0:=by simp[Env.sl,Env.fg]
     refine⟨fun j hj=>by omega,by simp[Env.fg,l1],by omega,by simp[Env.fg],fun hj=>by omega,fun hj=>by omega,.inr ⟨e,by simp,?_,by simp[Env.fg]⟩⟩
     rw[hs,l1,l2];exact World.ownsRow_nil w 0 e esz)
   obtain⟨d1,d2⟩:=eC r4 g2 g3;exact⟨_,fps',⟨r1.env g3 g2,g1,by rw[r3];exact d1.symm,d2⟩,g2,g3⟩
  ·simp at h
 ·rename_i t e esz l;split at h
  ·rename_i ht;split at h<;>simp only[VI,reduceCtorEq]at h
   rename_i hl;obtain⟨l1,l2⟩:=Bz hl;subst h
   have hkn:known (U.res++ [.arr (some e) esz l]) U.res.length:=by
    unfold known;rw[bL,VQ (by omega)];simp[ar]
   obtain⟨fps',g1,g2,g3⟩:=r2.beside hag U.res [.arr (some e) esz l] rfl (fun i _=> .inl rfl)
    (fun k hk=>by
     have:k=0:=by simp at hk;omega
     subst this;simp only[Nat.add_zero];have hs:(J.fg U.res.length).sl U.res.length= .slice none 0 0:=by simp[Env.sl,Env.fg]
     refine⟨fun j hj=>by omega,by simp[Env.fg,l1],by omega,by simp[Env.fg],fun hj=>by omega,fun hj=>by omega,.inr ⟨e,by simp,?_,by simp[Env.fg]⟩⟩
     rw[hs,l1,l2];exact World.ownsRow_nil w 0 e esz)
   obtain⟨d1,d2⟩:=eC r4 g2 g3;refine⟨_,fps',⟨⟨by rw[fN,iM];exact r1.1,fun u=>?_⟩,g1,by rw[r3];exact d1.symm,d2⟩,g2,g3⟩
   have hc:=(r1.clean.env g3 g2).2 u;rw[eQ];by_cases e:u=t/\t<(clean U.slots).length
   ·rw[VR e];obtain⟨rfl,_⟩:=e;have:=r1.2 u;rw[ht]at this;refine⟨?_,hkn⟩;rw[this.1,qN];rfl
   ·rw[VQ e];rw[jt]at hc⊢;cases hs:bF U.slots u<;>rw[hs]at hc<;>exact hc
  ·simp at h
 ·rename_i t;split at h
  case h_2=>simp at h
  rename_i k ht;split at h
  case h_3=>simp at h
  case h_2=>
   rename_i own esz l hrk;simp only[VI]at h;subst h;obtain⟨fps',g1,g2,g3,g4⟩:=Ob r2 hrk;obtain⟨d1,d2⟩:=eC r4 g2 g3;refine⟨_,fps',⟨⟨by rw[fN,iM];exact r1.1,fun u=>?_⟩,g1,by rw[r3];exact d1.symm,d2⟩,g2,g3⟩
   have hc:=(r1.clean.env g3 g2).2 u;rw[eQ];by_cases e:u=t/\t<(clean U.slots).length
   ·rw[VR e];obtain⟨rfl,_⟩:=e;have:=r1.2 u;rw[ht]at this;refine⟨?_,g4⟩;rw[this.1];simp[den,Env.ir]
   ·rw[VQ e];rw[jt]at hc⊢;cases hs:bF U.slots u<;>rw[hs]at hc<;>exact hc
  rename_i r hrk;split at h
  case h_2=>simp at h
  rename_i own esz l;simp only[VI]at h;subst h;have hkk:known U.res k:=by unfold known;rw[hrk];simp
  have hkl:=aG hkk;have hne:k≠U.res.length:=by omega
  have hag:Env.bg (known U.res) J (J.ir U.res.length k):=uu hnk
  have hkn:known (U.res++ [.arr none esz l]) U.res.length:=by
   unfold known;rw[bL,VQ (by omega)];simp[ar]
  have hro:=r2.holds k hkk;rw[hrk]at hro;obtain⟨a1,a2,a3,a4,a5,a6,a7⟩:=Qf (K':=fun _=>True) (fp2:=fun _=>False) hro
  obtain⟨fps',g1,g2,g3⟩:=r2.beside hag U.res [.arr none esz l] rfl (fun i _=> .inl rfl)
   (fun m hm=>by
    have:m=0:=by simp at hm;omega
    subst this;simp only[Nat.add_zero];have e1:(J.ir U.res.length k).adr U.res.length=J.adr k:=by simp[Env.ir]
    have e2:(J.ir U.res.length k).sa U.res.length=J.sa k:=by simp[Env.ir]
    have e3:(J.ir U.res.length k).sn U.res.length=J.sn k:=by simp[Env.ir]
    refine⟨a1,by rw[e3];exact a2,a3,by rw[e1,e2];exact a4,by rw[e2];exact a5,by rw[e1];exact a6,?_⟩
    rcases a7 with⟨_,b1,b2⟩|⟨e,_,_,b3⟩
    ·refine .inl ⟨rfl,by rw[e1];exact b1,fun j hj x hx=>?_⟩
     rw[e1,b2 j hj x hx,cQ (N:=fun _=>False) (J:=J) (ρ':=J.ir U.res.length k) (fun _ h=>h.elim) _ (a1 j hj).1]
    ·by_cases hl:0<l.len
     ·have:=a5 hl;cases hs:J.sa k with
      |none=>rw[hs]at this;simp at this
      |some x=>exact(b3 x hs).elim
     ·exact .inl ⟨rfl,fun h=>absurd h hl,fun j hj=>absurd (Nat.lt_of_le_of_lt (Nat.zero_le _) hj) hl⟩)
  obtain⟨d1,d2⟩:=eC r4 g2 g3;refine⟨_,fps',⟨⟨by rw[fN,iM];exact r1.1,fun u=>?_⟩,g1,by rw[r3];exact d1.symm,d2⟩,g2,g3⟩
  have hc:=(r1.clean.env g3 g2).2 u;rw[eQ];by_cases e:u=t/\t<(clean U.slots).length
  ·rw[VR e];obtain⟨rfl,_⟩:=e;have:=r1.2 u;rw[ht]at this;refine⟨?_,hkn⟩;rw[this.1];simp[den,Env.ir]
  ·rw[VQ e];rw[jt]at hc⊢;cases hs:bF U.slots u<;>rw[hs]at hc<;>exact hc
 ·rename_i t;split at h
  case h_2=>simp at h
  rename_i v ht;split at h
  case h_2=>simp at h
  rename_i k n c;split at h
  case h_2=>simp at h
  rename_i e x hrk;split at h
  case h_2=>simp at h
  rename_i L hL;split at h
  case isFalse=>simp at h
  rename_i hb;simp only[VK,VM,Nat.ble_eq]at hb;obtain⟨⟨hn,rfl⟩,hle⟩:=hb;simp only[VI]at h;subst h;obtain⟨fps',g1,g2,g3,g4⟩:=Hl r2 hrk hL hn hle;obtain⟨d1,d2⟩:=eC r4 g2 g3;refine⟨_,fps',⟨⟨by rw[fN,iM];exact r1.1,fun u=>?_⟩,g1,by rw[r3];exact d1.symm,d2⟩,g2,g3⟩
  have hc:=(r1.clean.env g3 g2).2 u;rw[eQ];by_cases e:u=t/\t<(clean U.slots).length
  ·rw[VR e];obtain⟨rfl,_⟩:=e;have:=r1.2 u;rw[ht]at this;refine⟨?_,g4⟩;rw[this.1];simp[den,Env.fE]
  ·rw[VQ e];rw[jt]at hc⊢;cases hs:bF U.slots u<;>rw[hs]at hc<;>exact hc
 ·simp only[VI]at h;subst h
  obtain⟨fps',g1,g2,g3⟩:=r2.beside hag U.res [.dfr] rfl (fun i hi=> .inl rfl) (fun k hk=>by
   simp only[List.length_singleton,Nat.lt_one_iff]at hk;subst hk;refine⟨fun j hj=>?_,fun j k hj=>?_⟩
   ·simp[Env.fg]at hj
   ·simp[Env.fg]at hj)
  obtain⟨d1,d2⟩:=eC r4 g2 g3;refine⟨_,fps',⟨r1.env g3 g2,g1,?_,fun d hd=>?_⟩,g2,g3⟩
  ·rw[List.flatMap_cons,d1,r3];simp[j5,yJ,Env.fg]
  ·rcases List.mem_cons.1 hd with rfl|hd
   ·refine⟨⟨?_,trivial⟩,trivial⟩;show known (U.res++ [.dfr]) U.res.length
    unfold known;rw[bL,VQ (by omega)]
    simp[ar]
   ·exact d2 d hd
def Env.vE (J:Env) (i p q:Nat):Env:= {J with sn:=fun j=>if j=i then J.sn p+J.sn q else J.sn j,ob:=fun j=>if j=i then fun x=>if x<J.sn p then J.ob p x else J.ob q (x-J.sn p)else J.ob j}
def Co (n:Nat) (U:St):Option St:=
 match U.defs with
 |d1::l=>match l with
  |d2::rest=>match yJ d1.2.1 with
   |some p=>match yJ d2.2.1 with
    |some q=>match ar U.res p with
     | .dfr=>match ar U.res q with
       | .dfr=>if p==q||Nat.blt U.res.length n then none else some {U with defs:=(0,[.yl U.res.length],[])::rest,res:=cy [p,q] U.res++ [.dfr]}
       |_=>none
     |_=>none
    |none=>none
   |none=>none
  | []=>none
 | []=>none
def BP (n:Nat):Nat->St->Option St
 |0,U=>some U
 |k+1,U=>match Co n U with
  |some s=>BP n k s
  |none=>none
theorem CD {α:Type} (f g h:Nat->α) (m k:Nat) (h1:∀j,j<m->f j=g j) (h2:∀j,j<k->f (m+j)=h j):(List.range (m+k)).map f=(List.range m).map g++(List.range k).map h:=by
 induction k with
 |zero=>simp only[Nat.add_zero,List.range_zero,List.map_nil,List.append_nil];exact List.map_congr_left fun j hj=>h1 j (List.mem_range.1 hj)
 |succ k ih=>
  rw[<-Nat.add_assoc,List.range_succ,List.range_succ,List.map_append,List.map_append,ih fun j hj=>h2 j (by omega),List.append_assoc]
  simp[h2 k (by omega)]
theorem CF {n:Nat} {U σ':St} (h:Co n U=some σ') (hr:jS J fps U w0 F0 a w):∃ρ' fps',jS ρ' fps' σ' w0 F0 a w/\Env.bg (fun i=>i<n) J ρ':=by
 obtain⟨r1,r2,r3,r4⟩:=hr;unfold Co at h;split at h
 case h_2=>simp at h
 rename_i d1 l hd;split at h
 case h_2=>simp at h
 rename_i d2 rest;split at h
 case h_2=>simp at h
 rename_i p hp;split at h
 case h_2=>simp at h
 rename_i q hq;split at h
 case h_2=>simp at h
 rename_i hrp;split at h
 case h_2=>simp at h
 rename_i hrq;split at h
 case isTrue=>simp at h
 rename_i hc;simp only[VI]at h;subst h;simp only[Bool.or_eq_true,VM,not_or]at hc;obtain⟨hpq,hn⟩:=hc
 have hn:n<=U.res.length:=by
  rcases Nat.lt_or_ge U.res.length n with h|h
  ·exact absurd (by rw[Nat.blt_eq];exact h) hn
  ·exact h
 have hkp:known U.res p:=by unfold known;rw[hrp];simp
 have hkq:known U.res q:=by unfold known;rw[hrq];simp
 have hlp:=aG hkp;have hlq:=aG hkq;have hP:=r2.holds p hkp;have hQ:=r2.holds q hkq;rw[hrp]at hP;rw[hrq]at hQ;obtain⟨P1,P2⟩:=hP;obtain⟨Q1,Q2⟩:=hQ
 have hag:Env.bg (fun i=>i<U.res.length) J (J.vE U.res.length p q):=fun i hi=>by
  have hi:i<U.res.length:=hi;have:i≠U.res.length:=by omega
  simp[Env.vE,this]
 have hagk:Env.bg (known U.res) J (J.vE U.res.length p q):=hag.mono fun i hi=>aG hi
 obtain⟨fps',g1,g2,g3,g4⟩:=r2.vN (w':=w) (ρ':=J.vE U.res.length p q) [p,q] .dfr [] (fun b=>fps p b\/fps q b) (by simp) (fun t ht=>by
   rcases List.mem_cons.1 ht with rfl|ht
   ·exact hkp
   ·simp at ht;subst ht;exact hkq) (by simp) hagk
  (by
   refine⟨fun j hj=>?_,fun j k hj hk e=>?_⟩
   ·simp only[Env.vE,if_true]at hj⊢;by_cases hjp:j<J.sn p
    ·rw[VR hjp];exact⟨.inl (P1 j hjp).1,(P1 j hjp).2⟩
    ·rw[VQ hjp];exact⟨.inr (Q1 _ (by omega)).1,(Q1 _ (by omega)).2⟩
   ·simp only[Env.vE,if_true]at hj hk e;by_cases hjp:j<J.sn p<;>by_cases hkp':k<J.sn p
    ·rw[VR hjp,VR hkp']at e;exact P2 j k hjp hkp' e
    ·rw[VR hjp,VQ hkp']at e;exact absurd (by rw[e];exact(Q1 _ (by omega)).1) (r2.disj p q _ hkp hkq hpq (P1 j hjp).1)
    ·rw[VQ hjp,VR hkp']at e;exact absurd (by rw[<-e];exact(Q1 _ (by omega)).1) (r2.disj p q _ hkp hkq hpq (P1 k hkp').1)
    ·rw[VQ hjp,VQ hkp']at e;have:=Q2 _ _ (by omega) (by omega) e
     omega)
  (fun b hb=> .inl (hb.elim (fun h=>⟨p,by simp,h⟩) fun h=>⟨q,by simp,h⟩)) rfl rfl rfl (Nat.le_refl _) (fun _ _ _=>rfl)
 have hl:∀d∈rest,eH (known U.res) d.2.1/\eH (known U.res) d.2.2:=fun d hd'=>r4 d (by rw[hd];simp[hd'])
 obtain⟨e1,e2⟩:=eC hl hagk g3;refine⟨_,fps',⟨r1.env g3 hagk,g1,?_,fun d hd'=>?_⟩,hag.mono fun i hi=>by omega⟩
 ·rw[r3,hd];simp only[List.flatMap_cons];rw[e1,<-List.append_assoc];congr 1
  unfold j5;rw[hp,hq];simp only[yJ];simp only[Env.vE,if_true];exact(CD _ _ _ _ _ (fun j hj=>by rw[VR hj]) fun j hj=>by rw[VQ (by omega),show J.sn p+j-J.sn p=j by omega]).symm
 ·rcases List.mem_cons.1 hd' with rfl|hd'
  ·exact⟨⟨g4,trivial⟩,trivial⟩
  ·exact e2 d hd'
theorem yA {n:Nat}:∀{k:Nat} {U σ':St} {J:Env} {fps:Nat->Nat->Prop},BP n k U=some σ'->jS J fps U w0 F0 a w->∃ρ' fps',jS ρ' fps' σ' w0 F0 a w/\Env.bg (fun i=>i<n) J ρ'
 |0,U,σ',J,fps,h,hr=>by simp only[BP,VI]at h;subst h;exact⟨J,fps,hr,Env.bg.refl _ _⟩
 |k+1,U,σ',J,fps,h,hr=>by
  simp only[BP]at h;split at h
  ·rename_i s hs;obtain⟨ρ1,fps1,g1,g2⟩:=CF hs hr;obtain⟨ρ2,fps2,g3,g4⟩:=yA h g1;exact⟨ρ2,fps2,g3,g2.trans g4 fun i hi=>hi⟩
  ·simp at h
theorem rn:∀{l:List Gh} {U σ':St} {J:Env} {fps:Nat->Nat->Prop},s9 l U=some σ'->jS J fps U w0 F0 a w->∃ρ' fps',jS ρ' fps' σ' w0 F0 a w/\Good J U.res ρ' σ'.res
 | [],U,σ',J,fps,h,hr=>by simp only[s9,VI]at h;subst h;exact⟨J,fps,hr,Good.refl _ _⟩
 |g::l,U,σ',J,fps,h,hr=>by
  simp only[s9]at h;split at h
  ·rename_i σ1 h1;obtain⟨ρ1,fps1,g1,g2⟩:=Dz h1 hr;obtain⟨ρ2,fps2,g3,g4⟩:=rn h g1;exact⟨ρ2,fps2,g3,g2.trans g4⟩
  ·simp at h
end
end Go.Sx
