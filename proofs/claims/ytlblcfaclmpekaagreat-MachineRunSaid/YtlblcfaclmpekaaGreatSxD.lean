import Derived.Test.YtlblcfaclmpekaaGreatSxC
import Derived.TacticsIn
import Derived.OrdersIn
import Derived.RangeFuncLeaves
import Derived.RangeFuncRecord
set_option linter.unusedSimpArgs false
set_option linter.unusedVariables false
namespace Go.Sx
open Go.RowKit (Below)
structure St where
 slots:List S
 res:List aB
 defs:List (Nat×List V×List V)
def yN:List V->Option Nat
 | [x]=>match x with
   | .yl k=>some k
   |_=>none
 |_=>none
def j6 (J:Env) (d:Nat×List V×List V):List Deferred:=
 match yN d.2.1 with
 |some k=>(List.range (J.sn k)).map fun j=> {target:= .collected (J.ob k j),args:= #[]}
 |none=> [{target:= .fn (.func d.1) (bf J d.2.2).toArray,args:=(bf J d.2.1).toArray}]
theorem IQ {l:List V} {k:Nat} (h:yN l=some k):l= [.yl k]:=by
 unfold yN at h;split at h
 ·split at h
  ·simp only[VE]at h;subst h;rfl
  ·simp at h
 ·simp at h
def jM (J:Env) (fps:Nat->Nat->Prop) (U:St) (w0:World) (F0:Nat->Prop) (a:Act) (w:World):Prop:=
 gP J (known U.res) U.slots a/\aX J fps U.res (known U.res) w0 F0 w/\a.defers=U.defs.flatMap (j6 J)/\∀d∈U.defs,eK (known U.res) d.2.1/\eK (known U.res) d.2.2
def Good (J:Env) (res:List aB) (ρ':Env) (res':List aB):Prop:=Env.bc (known res) J ρ'/\∀i,known res i->known res' i
theorem Good.refl (J:Env) (res:List aB):Good J res J res:=⟨Env.bc.refl _ _,fun _ h=>h⟩
theorem Good.trans {J ρ' ρ'':Env} {r r' r'':List aB} (h:Good J r ρ' r') (h':Good ρ' r' ρ'' r''):Good J r ρ'' r'':=
 ⟨h.1.trans h'.1 h.2,fun i hi=>h'.2 i (h.2 i hi)⟩
theorem eA {J ρ':Env} {K K':Nat->Prop} {l:List (Nat×List V×List V)} (hl:∀d∈l,eK K d.2.1/\eK K d.2.2) (ha:Env.bc K J ρ') (hK:∀i,K i->K' i):
  l.flatMap (j6 ρ')=l.flatMap (j6 J)/\∀d∈l,eK K' d.2.1/\eK K' d.2.2:=
 ⟨by
  rw[List.flatMap_def,List.flatMap_def];refine congrArg _ (List.map_congr_left fun d hd=>?_)
  ·
   unfold j6;cases hm:yN d.2.1 with
   |none=>simp only[eV ha _ (hl d hd).1,eV ha _ (hl d hd).2]
   |some k=>
    have h1:=(hl d hd).1;rw[IQ hm]at h1;simp only[(ha k h1.1).2.2.2.2.1,(ha k h1.1).2.2.2.2.2],fun d hd=>⟨b8 hK _ (hl d hd).1,b8 hK _ (hl d hd).2⟩⟩
def aj (P:Program) (f:Nat) (args:List V) (res:List aB) (K:V->List aB->Prop) (KP:V->List aB->Prop):Prop:=
 ∀J fps w0 F0 w,aX J fps res (known res) w0 F0 w->eK (known res) args->
  CallsIn (FF P none) 0 P f (bf J args).toArray w fun e w'=>∃x ρ' fps' res',aX ρ' fps' res' (known res') w0 F0 w'/\Good J res ρ' res'/\ok (known res') x/\
   ((e= .returned (den ρ' x)/\K x res')\/(e= .panicked [{v:=den ρ' x,recovered:=false}]/\KP x res'))
abbrev Handler:=Nat->List V->List aB->(V->List aB->Prop)->(V->List aB->Prop)->Prop
def Handler.OK (P:Program) (H:Handler):Prop:=∀f args res K KP,H f args res K KP->aj P f args res K KP
def mV (res new:List aB):List aB:=
 match new with
 | []=>res
 |r::l=>res++(r::l)
theorem qk (res new:List aB):mV res new=res++new:=by cases new<;>simp[mV]
def JZ (d:Nat):S->Bool
 | .gv ch _=> !named d ch
 |_=>true
def m7 (sl:List S) (dst:Option Nat) (s:S):Option (List S):=
 match dst with
 |none=>some sl
 |some d=>if wA d sl&&JZ d s then some (sset sl d s)else none
def B2:List S->Nat->S->(List S->Prop)->Prop
 | [],_,_,k=>k []
 |_::l,0,y,k=>k (y::l)
 |x::l,n+1,y,k=>B2 l n y fun l'=>k (x::l')
theorem wD:∀(l:List S) (n:Nat) (y:S) (k:List S->Prop),B2 l n y k=k (sset l n y)
 | [],_,_,_=>rfl
 |_::_,0,_,_=>rfl
 |_::l,n+1,y,k=>by simp only[B2,sset];exact wD l n y _
def oh (sl:List S) (dst:Option Nat) (s:S) (k:List S->Prop):Prop:=
 match dst with
 |none=>k sl
 |some d=>if wA d sl&&JZ d s then B2 sl d s k else False
theorem jS (sl:List S) (dst:Option Nat) (s:S) (k:List S->Prop):oh sl dst s k=match m7 sl dst s with|some l=>k l|none=>False:=by
 unfold oh m7;cases dst with
 |none=>rfl
 |some d=>
  simp only;split
  ·rw[wD]
  ·rfl
def vt:List S->(List S->Prop)->Prop
 | [],k=>k []
 |x::l,k=>match x with
  | .und=>vt l fun l'=>k (.und::l')
  | .ud=>vt l fun l'=>k (.ud::l')
  | .v y=>vt l fun l'=>k (.v y::l')
  | .gv c y=>vt l fun l'=>k (.gv c y::l')
theorem sk:∀(l:List S) (k:List S->Prop),vt l k=k l
 | [],_=>rfl
 |x::l,k=>by cases x<;>simp only[vt]<;>exact sk l _
def kN:List S->(List S->Prop)->Prop
 | [],k=>k []
 |x::l,k=>match x with
  | .v y=>kN l fun l'=>k (.v y::l')
  |_=>kN l fun l'=>k (.und::l')
theorem jA:∀(l:List S) (k:List S->Prop),kN l k=k (clean l)
 | [],_=>rfl
 |x::l,k=>by cases x<;>simp only[kN,clean]<;>exact jA l _
def oC (P:Program) (res:List aB) (t:Nat) (p y:V):Option (List aB):=
 if nc P t==some (dQ y)&& !bR y then
  match p with
  | .lp id off=>match an res id with
    | .blk ty c=>(setAt 8 c off y).map fun c'=>br res id (.blk ty c')
    |_=>none
  | .lx id off esz n i inner=>match an res id with
    | .blk ty c=>(D6 c off esz n i inner y).map fun c'=>br res id (.blk ty c')
    |_=>none
  |_=>none
 else none
def T0 (v:V) (z j:Nat):Option V:=
 match v with
 | .ks x z' n lo hi=>match x with
   | .lp id off=>if z==z'&&Nat.blt j (hi-lo)then some (.lp id (off+(lo+j)*z))else none
   |_=>none
 | .sc id len _=>if Nat.blt j len then some (.lp id (j*z))else none
 |_=>none
def TP:V->Option Nat
 | .ks x _ _ lo hi=>if Gd x then some (hi-lo)else none
 | .sc _ len _=>some len
 |_=>none
def Tx (C:Ctx) (res:List aB) (t z:Nat) (v:V):Nat->Nat->Option (List V)
 |_,0=>some []
 |j,m+1=>match T0 v z j with
  |some p=>match v7 C res t p with
   |some r=>match r.1 with
    |none=>match Tx C res t z v (j+1) m with
     |some l=>some (r.2::l)
     |none=>none
    |some _=>none
   |none=>none
  |none=>none
def Sv (P:Program) (t z:Nat) (v:V):Nat->List V->List aB->Option (List aB)
 |_,[],res=>some res
 |j,y::l,res=>match T0 v z j with
  |some p=>match oC P res t p y with
   |some res'=>Sv P t z v (j+1) l res'
   |none=>none
  |none=>none
def Va (C:Ctx) (res:List aB) (ts:List Nat) (xs:List V):Option (V×List aB):=
 match ts,xs with
 | [t,_],[d,s]=>match C.P.underlying t with
   |some (.slice e)=>match nc C.P e,kh C.P e,TP d,TP s with
    |some z,some a,some n,some m=>if a&&cj .i64 ((Nat.min m n:Nat):Int)then match Tx C res e z s 0 (Nat.min m n)with
     |some l=>match Sv C.P e z d 0 l res with
      |some res'=>some (.ci .i64 ((Nat.min m n:Nat):Int),res')
      |none=>none
     |none=>none
     else none
    |_,_,_,_=>none
   |_=>none
 |_,_=>none
def T8 (C:Ctx) (res:List aB) (ts:List Nat) (xs:List V):Option (V×List aB):=
 match UC C res ts xs with
 |some r=>some r
 |none=>Va C res ts xs
abbrev cK:=Nat->List V->List aB->(V->List aB->Prop)->(V->List aB->Prop)->Prop
def UT:cK:=fun _ _ _ _ _=>False
theorem Rh {N:Nat->Prop} {g:Nat} {vs caps:List V} (h1:eK N vs) (h2:eK N caps):eK N (Mv g vs caps):=by
 unfold Mv;rw[gf]at h1 h2;split<;>rw[gf]<;>intro z hz<;>rcases List.mem_append.1 hz with hz|hz<;>first|exact h1 z hz|exact h2 z hz
def DA (C:Ctx) (H:Handler) (vs:List V) (res:List aB) (K KP:V->List aB->Prop):V->Prop
 | .fn g caps=>gi C.P (Cn g)=true/\H (Cn g) (Mv g vs caps) res K KP
 | .ch b g caps y=>(b=true->gi C.P (Cn g)=true/\H (Cn g) (Mv g vs caps) res K KP)/\(b=false->DA C H vs res K KP y)
 |_=>False
theorem uh {C:Ctx} {H:Handler} {vs:List V} {res:List aB} {K KP:V->List aB->Prop} {J:Env} {N:Nat->Prop}:∀fv,DA C H vs res K KP fv->ok N fv->
  ∃g caps,den J fv=Ck g (bf J caps)/\eK N caps/\gi C.P (Cn g)=true/\H (Cn g) (Mv g vs caps) res K KP
 | .fn g caps,h,hk=>⟨g,caps,rfl,hk,h.1,h.2⟩
 | .ch b g caps y,h,hk=>by
   cases b
   ·obtain⟨g',caps',e⟩:=uh (J:=J) y (h.2 rfl) hk.2.1;exact⟨g',caps',e⟩
   ·exact⟨g,caps,rfl,hk.1,(h.1 rfl).1,(h.1 rfl).2⟩
 | .cb _,h,_| .bo _,h,_| .ci _ _,h,_| .it _ _,h,_| .bt _,h,_| .st _,h,_| .nl _,h,_| .lp _ _,h,_| .lx _ _ _ _ _ _,h,_| .sc _ _ _,h,_| .so _ _,h,_| .ap _ _ _ _,h,_| .sa _,h,_| .op _ _,h,_| .yl _,h,_| .ic _ _,h,_| .ag _,h,_| .tp _,h,_
 | .key _,h,_| .sl _,h,_| .by _,h,_| .ob _,h,_| .mp _,h,_| .ax _ _ _ _ _ _ _ _,h,_| .bs _ _ _,h,_| .ks _ _ _ _ _,h,_=>h.elim
def OA (C:Ctx) (H:Handler) (Y:cK) (U:St) (ch:List (Nat×Bool)) (o:Oper) (K:St->Prop) (KP:V->St->Prop):Prop:=
 match o.op with
 | .store t p x=>match dY U.slots ch p,dY U.slots ch x,o.dst with
   |some pv,some xv,none=>match oC C.P U.res t pv xv with
    |some res'=>K {U with res:=res'}
    |none=>match Cq C.P U.res t pv xv with
     |some (q,res')=>Be q (K {U with res:=res'})
     |none=>False
   |_,_,_=>False
 | .insert t m k x=>match dY U.slots ch m,dY U.slots ch k,dY U.slots ch x,o.dst with
   |some mv,some kv,some xv,none=>match OC C.P U.res t mv kv xv with
    |some res'=>K {U with res:=res'}
    |none=>match Lz C.P U.res t mv kv xv with
     |some res'=>K {U with res:=res'}
     |none=>False
   |_,_,_,_=>False
 | .panic x=>match dY U.slots ch x with
   |some (.ic t y)=>KP (.ic t y) {U with slots:=clean U.slots}
   |_=>False
 | .call c=>match c.callee with
   | .value f=>match dY U.slots ch f,kY U.slots ch c.args.toList with
     |some (.fn g caps),some vs=>gi C.P (Cn g)=true/\H (Cn g) (Mv g vs caps) U.res
      (fun x res'=>oh U.slots o.dst (.v x) fun sl=>K {U with slots:=sl,res:=res'})
      (fun x res'=>KP x {U with slots:=clean U.slots,res:=res'})
     |some (.ch b g caps y),some vs=>DA C H vs U.res
      (fun x res'=>oh U.slots o.dst (.v x) fun sl=>K {U with slots:=sl,res:=res'})
      (fun x res'=>KP x {U with slots:=clean U.slots,res:=res'}) (.ch b g caps y)
     |some (.yl k),some vs=>Y k vs U.res
      (fun x res'=>oh U.slots o.dst (.v x) fun sl=>K {U with slots:=sl,res:=res'})
      (fun x res'=>KP x {U with slots:=clean U.slots,res:=res'})
     |_,_=>False
   | .builtin .append=>match c.argTypes.toList,kY U.slots ch c.args.toList with
     | [t,t'],some [x,y]=>if t==t' then match Q4 C U.res t x y with
       |some (q,v,res')=>Be q (oh U.slots o.dst (.v v) fun sl=>K {U with slots:=sl,res:=res'})
       |none=>False
       else False
     |_,_=>False
   | .builtin .copy=>match kY U.slots ch c.args.toList with
     |some vs=>match T8 C U.res c.argTypes.toList vs with
      |some (v,res')=>oh U.slots o.dst (.v v) fun sl=>K {U with slots:=sl,res:=res'}
      |none=>False
     |none=>False
   | .builtin .clear=>match kY U.slots ch c.args.toList with
     |some vs=>match QW C U.res c.argTypes.toList vs with
      |some res'=>oh U.slots o.dst (.v (.tp [])) fun sl=>K {U with slots:=sl,res:=res'}
      |none=>False
     |none=>False
   |_=>False
 | .defer c=>match c.callee,o.dst with
   | .value f,none=>match dY U.slots ch f,kY U.slots ch c.args.toList with
     |some (.fn g caps),some vs=>match yN vs with
      |none=>if Nat.blt g 2000 then K {U with defs:=(g,vs,caps)::U.defs}else False
      |some _=>False
     |_,_=>False
   |_,_=>False
 |_=>False
def uN:List (Nat×Bool)->Nat->Option Bool
 | [],_=>none
 | (s,w)::c,i=>if s==i then some w else uN c i
def zL (ch:List (Nat×Bool)) (i:Nat) (s:S):S:=
 match s with
 | .v y=>match y with
   | .bo b=>match uN ch i with
     |some w=> .v (.cb w)
     |none=> .v (.bo b)
   |y=> .v y
 | .gv c y=>if DT c ch then match y with
   | .bo b=>match uN ch i with
     |some w=> .v (.cb w)
     |none=> .v (.bo b)
   |y=> .v y
   else .gv c y
 |s=>s
def El (ch:List (Nat×Bool)):Nat->List S->List S
 |_,[]=> []
 |i,s::l=>zL ch i s::El ch (i+1) l
def fixF (t:Nat) (w:Bool) (i:Nat) (s:S):S:=
 match s with
 | .v y=>match y with
   | .bo b=>if i==t then .v (.cb (!w))else .v (.bo b)
   |y=> .v y
 | .gv c _=>if E0 c t w then .ud else .und
 |s=>s
def Bt (t:Nat) (w:Bool):Nat->List S->List S
 |_,[]=> []
 |i,s::l=>fixF t w i s::Bt t w (i+1) l
def Ss (ch:List (Nat×Bool)) (l:List S):List S:=
 match ch with
 | [(t,w)]=>match bD l t with
   | .v (.bo _)=>Bt t w 0 l
   |_=>l
 |_=>l
def vP (C:Ctx) (H:Handler) (Y:cK) (ops:List Oper) (o:Oper) (U:St) (K:St->Prop) (KP:V->St->Prop):Prop:=
 if TE C.P U.slots o then match qs U.slots ops o.guard with
 |none=>False
 |some none=>oh U.slots o.dst .ud fun sl=>K {U with slots:=sl}
 |some (some ch)=>match Ab C U.slots U.res U.res.length ch o.op with
  |some (q,x,new)=>
   if ch.isEmpty then
    oh U.slots o.dst (.v x) fun sl=>Be q (K {U with slots:=sl,res:=mV U.res new})
   else if new.isEmpty then
    oh U.slots o.dst (.gv ch x) fun sl=>Q3 (lh U.slots ch) q (K {U with slots:=sl})
   else(lh U.slots ch=true->oh U.slots o.dst (.v x) fun sl=>Be q (K {U with slots:=sl,res:=mV U.res new}))/\(lh U.slots ch=false->oh U.slots o.dst .ud fun sl=>K {U with slots:=sl})
  |none=>if ch.isEmpty then OA C H Y U ch o K KP else(lh U.slots ch=true->vt (El ch 0 U.slots) fun sl=>OA C H Y {U with slots:=sl} [] o K KP)/\(lh U.slots ch=false->vt (Ss ch U.slots) fun sl=>oh sl o.dst .ud fun sl=>K {U with slots:=sl})
 else False
section
variable {C:Ctx} {J:Env} {fps:Nat->Nat->Prop} {w0 w:World} {F0:Nat->Prop} {a:Act}
theorem gP.m7 {K:Nat->Prop} {sl sl':List S} {dst:Option Nat} {s:S} {x:Value} (h:gP J K sl a) (hp:m7 sl dst s=some sl')
  (hs:∀d,dst=some d->wA d sl=true->(∀ch y,s= .gv ch y->named d ch=false)->fF J K (sset sl d s) x s):gP J K sl' (a.put dst x):=by
 unfold Sx.m7 at hp;cases dst with
 |none=>simp only[VE]at hp;subst hp;exact h
 |some d=>
  simp only at hp;split at hp
  ·rename_i hc;simp only[VE]at hp;simp only[VG]at hc;subst hp;refine h.put hc.1 (hs d rfl hc.1 fun ch y e=>?_)
   subst e;simpa[JZ]using hc.2
  ·simp at hp
theorem put_defers (a:Act) (dst:Option Nat) (v:Value):(a.put dst v).defers=a.defers:=by cases dst<;>rfl
theorem gm (w:World) (g:Nat) (cs cs':Array Value) (t:Nat) (h:w.heap[g]? =some (.cells cs t (0,0))):(w.setRow g cs').heap[g]? =some (.cells cs' t (0,0)):=by
 exact setRow_heap w g cs cs' t (0,0) h
theorem wG {P:Program} {res res':List aB} {K:Nat->Prop} {t:Nat} {p y:V} (h:aX J fps res K w0 F0 w) (hs:oC P res t p y=some res') (hp:ok K p) (hy:ok K y):
  ∃b off ty cs cs',den J p= .pointer (some ⟨b,off,none⟩)/\w.heap[b]? =some (.cells cs ty (0,0))/\(∀w1:World,w1.heap[b]? =some (.cells cs ty (0,0))->(Instr.storeAt t (den J p) (den J y)).run P w1= .ok () (w1.setRow b cs'))/\aX J fps res' K w0 F0 (w.setRow b cs')/\∀i,known res' i↔known res i:=by
 unfold oC at hs;split at hs
 ·rename_i hc;simp only[VG,VI,Bool.not_eq_true']at hc;obtain⟨hsz,hty⟩:=hc
  have fin:∀id ty c c' off,an res id= .blk ty c->DS K J c c' off y->den J p= .pointer (some ⟨J.num id,off,none⟩)->
    ∃b off ty' cs cs',den J p= .pointer (some ⟨b,off,none⟩)/\w.heap[b]? =some (.cells cs ty' (0,0))/\(∀w1:World,w1.heap[b]? =some (.cells cs ty' (0,0))->(Instr.storeAt t (den J p) (den J y)).run P w1= .ok () (w1.setRow b cs'))/\aX J fps (br res id (.blk ty c')) K w0 F0 (w.setRow b cs')/\∀i,known (br res id (.blk ty c')) i↔known res i:=by
   intro id ty c c' off hr hput hdp;have hk:known res id:=by unfold known;rw[hr];simp
   have hh:=h.holds id hk;rw[hr]at hh;obtain⟨h1,h2,h3,h4⟩:=hh;refine⟨J.num id,off,ty,(cells J c).toArray,(cells J c').toArray,hdp,h4,fun w1 hw1=>?_,h.write hr hput.2.2.1 hput.2.2.2 rfl rfl rfl (by simp[World.setRow]) (gm w _ _ _ _ h4) fun b hb=>setRow_other w _ _ b hb,fun i=>?_⟩
   ·have hst:=vH (P:=P) (t:=t) w1 hy hty hsz hw1 hput;rw[hdp];simp only[Instr.storeAt,Instr.sureAddr,Sem.run_bind,Sem.run_pure,Result.andThen_ok];exact hst
   ·unfold known;rw[bm _ _ _ _ (aF hk)];by_cases e:i=id
    ·subst e;simp[hr]
    ·simp[e]
  split at hs
  ·rename_i id off;split at hs
   ·rename_i ty c hr;cases hset:setAt 8 c off y with
    |none=>simp[hset]at hs
    |some c'=>
     simp only[hset,Option.map_some,VE]at hs;subst hs;have hh:=h.holds id (by unfold known;rw[hr];simp)
     rw[hr]at hh;exact fin id ty c c' off hr (fV J y hy hty 8 c off c' hh.1 hh.2.1 hset) rfl
   ·simp at hs
  ·rename_i id off esz n i inner;split at hs
   ·rename_i ty c hr;cases hset:D6 c off esz n i inner y with
    |none=>simp[hset]at hs
    |some c'=>
     simp only[hset,Option.map_some,VE]at hs;subst hs;have hh:=h.holds id (by unfold known;rw[hr];simp)
     rw[hr]at hh;exact fin id ty c c' _ hr (CW J hh.1 hh.2.1 hp.2 hy hty hset) rfl
   ·simp at hs
  ·simp at hs
 ·simp at hs
theorem ph {P:Program} {res res':List aB} {K:Nat->Prop} {t:Nat} {p y:V} (h:aX J fps res K w0 F0 w) (hs:oC P res t p y=some res') (hp:ok K p) (hy:ok K y):
  ∃w',(Instr.storeAt t (den J p) (den J y)).run P w= .ok () w'/\aX J fps res' K w0 F0 w'/\∀i,known res' i↔known res i:=by
 obtain⟨b,off,ty,cs,cs',h1,h2,h3,h4,h5⟩:=wG h hs hp hy;exact⟨_,h3 w h2,h4,h5⟩
theorem EE {J:Env} {v:V} {n:Nat} (h:TP v=some n):∃a cap,den J v= .slice (some a) n cap:=by
 unfold TP at h;split at h
 ·split at h<;>simp only[VE,reduceCtorEq]at h
  rename_i hx;subst h;obtain⟨b,o,hd⟩:=rL (J:=J) hx;simp only[den,uG,hd];exact⟨_,_,rfl⟩
 ·simp only[VE]at h;subst h;exact⟨_,_,rfl⟩
 ·simp at h
theorem Ey {J:Env} {K:Nat->Prop} {v p:V} {z j n cap:Nat} {a:Addr} (h:T0 v z j=some p) (hk:ok K v) (hd:den J v= .slice (some a) n cap):a.spot=none/\den J p= .pointer (some (a.add (j*z)))/\ok K p:=by
 unfold T0 at h;split at h
 ·rename_i x z' n' lo hi;split at h
  case h_2=>simp at h
  rename_i id off;split at h<;>simp only[VE,reduceCtorEq]at h
  rename_i hc;simp only[VG,VI,Nat.blt_eq]at hc;obtain⟨rfl,hj⟩:=hc;subst h;obtain⟨hk1,hk2,hk3⟩:=hk;simp only[den,uG]at hd⊢;rw[VM (by omega),add_lit]at hd
  simp only[Value.slice.injEq,VE]at hd;obtain⟨rfl,h2,h3⟩:=hd;rw[add_lit];exact⟨rfl,by simp only[Nat.add_mul,Nat.add_assoc],hk1⟩
 ·split at h<;>simp only[VE,reduceCtorEq]at h
  subst h;simp only[den,Value.slice.injEq,VE]at hd;obtain⟨rfl,h2,h3⟩:=hd;refine⟨rfl,?_,hk⟩;simp only[den];rw[add_lit,Nat.zero_add]
 ·simp at h
theorem add_add {a:Addr} (h:a.spot=none) (i j:Nat):(a.add i).add j=a.add (i+j):=by
 obtain⟨b,o,s⟩:=a;simp only at h;subst h;rw[add_lit,add_lit,add_lit,Nat.add_assoc]
theorem yU {a:Addr} (h:a.spot=none) (k:Nat):∀(n i:Nat) (acc:Array Value),loadCellsFrom (a.add k) i n acc=loadCellsFrom a (k+i) n acc
 |0,i,acc=>rfl
 |n+1,i,acc=>by
  simp only[loadCellsFrom,add_add h];congr 1
  funext v
  exact yU h k n (i+1) (acc.push v)
theorem EW {P:Program} {a:Addr} {w:World}:∀(n i:Nat) (acc ys:Array Value) (w':World),(loadCellsFrom a i n acc).run P w= .ok ys w'->w'=w/\∃xs,ys=acc++xs/\∀acc',(loadCellsFrom a i n acc').run P w= .ok (acc'++xs) w
 |0,i,acc,ys,w',h=>by
  simp only[loadCellsFrom,Sem.run_pure,Result.ok.injEq]at h;obtain⟨rfl,rfl⟩:=h;exact⟨rfl, #[],by simp,fun acc'=>by simp[loadCellsFrom]⟩
 |n+1,i,acc,ys,w',h=>by
  simp only[loadCellsFrom,Sem.run_bind]at h;cases hv:(load (a.add i)).run P w with
  |halt x w1=>rw[hv]at h;simp[Result.andThen]at h
  |ok v w1=>
   have hw:w1=w:=by
    rw[run_load]at hv;split at hv
    ·simp only[Result.ok.injEq]at hv;exact hv.2.symm
    ·split at hv<;>simp only[Result.ok.injEq,reduceCtorEq]at hv
     exact hv.2.symm
   subst hw;rw[hv]at h;simp only[Result.andThen_ok]at h;obtain⟨rfl,xs,rfl,h3⟩:=EW n (i+1) _ _ _ h;refine⟨rfl, #[v]++xs,by apply Array.ext';simp,fun acc'=>?_⟩
   simp only[loadCellsFrom,Sem.run_bind,hv,Result.andThen_ok,h3];congr 1
   apply Array.ext'
   simp
theorem Em {P:Program} {a:Addr}:∀(p q i:Nat) (acc:Array Value) (w:World),(loadCellsFrom a i (p+q) acc).run P w=((loadCellsFrom a i p acc).run P w).andThen fun acc' w'=>(loadCellsFrom a (i+p) q acc').run P w'
 |0,q,i,acc,w=>by simp[loadCellsFrom]
 |p+1,q,i,acc,w=>by
  rw[show p+1+q=(p+q)+1 by omega]
  simp only[loadCellsFrom,Sem.run_bind];cases hv:(load (a.add i)).run P w with
  |halt x w1=>simp[Result.andThen]
  |ok v w1=>
   simp only[Result.andThen_ok];rw[Em p q (i+1),show i+1+p=i+(p+1) by omega]
theorem A9 {C:Ctx} {res:List aB} {K:Nat->Prop} {t z:Nat} {v:V} {a:Addr} {len cap:Nat} (h:aX J fps res K w0 F0 w) (ht:kh C.P t=some true) (hz:nc C.P t=some z) (hk:ok K v) (hd:den J v= .slice (some a) len cap):
  ∀(m j:Nat) (l:List V),Tx C res t z v j m=some l->(∀acc,(loadCellsFrom a (j*z) (m*z) acc).run C.P w= .ok (acc++(aW J l).toArray) w)/\eK K l/\qI l
 |0,j,l,hl=>by
  simp only[Tx,VE]at hl;subst hl;exact⟨fun acc=>by simp[loadCellsFrom,aW],trivial,trivial⟩
 |m+1,j,l,hl=>by
  simp only[Tx]at hl;split at hl
  case h_2=>simp at hl
  rename_i p hp;split at hl
  case h_2=>simp at hl
  rename_i r hr;split at hl
  case h_2=>simp at hl
  rename_i hq;split at hl<;>simp only[VE,reduceCtorEq]at hl
  rename_i l' hl';subst hl;obtain⟨y1,y2⟩:=r;simp only at hq hr;subst hq;obtain⟨p1,p2,p3⟩:=Ey hp hk hd;obtain⟨e1,e2,e3⟩:=qO h hr trivial p3;obtain⟨i1,i2,i3⟩:=A9 h ht hz hk hd m (j+1) l' hl';rw[p2]at e1;simp only[Instr.loadAt,Instr.sureAddr,Sem.run_bind,Sem.run_pure,Result.andThen_ok,loadVar,qc w ht,if_true,fi w hz]at e1;have hag:(den J y2).cells=(cells J y2).toArray:=by simp[cells]
  cases hc:(loadCells (a.add (j*z)) z).run C.P w with
  |halt x w1=>rw[hc]at e1;simp[Result.andThen]at e1
  |ok cs w1=>
   rw[hc]at e1;simp only[Result.andThen_ok,Sem.run_pure,Result.ok.injEq]at e1;obtain⟨e1,rfl⟩:=e1
   have hcs:cs=(cells J y2).toArray:=by
    rw[<-hag,<-e1];rfl
   unfold loadCells at hc;rw[yU p1]at hc;obtain⟨_,xs,hx,hrun⟩:=EW _ _ _ _ _ hc;simp only[Nat.add_zero]at hrun;have hxs:xs=(cells J y2).toArray:=by rw[<-hcs,hx];simp
   subst hxs;refine⟨fun acc=>?_,⟨e2,i2⟩,?_,i3⟩
   ·rw[Nat.add_mul,Nat.one_mul,Nat.add_comm,Em,hrun,Result.andThen_ok];rw[show j*z+z=(j+1)*z by rw[Nat.add_mul,Nat.one_mul],i1]
    simp only[aW];congr 1
    apply Array.ext'
    simp[cells]
   ·cases y2<;>first|trivial| (simp[bR]at e3)
theorem ED {P:Program} {a:Addr}:∀(xs ys:List Value) (i:Nat) (w:World),(storeCells a (xs++ys) i).run P w=((storeCells a xs i).run P w).andThen fun _ w'=>(storeCells a ys (i+xs.length)).run P w'
 | [],ys,i,w=>by simp[storeCells]
 |x::xs,ys,i,w=>by
  simp only[List.cons_append,storeCells,Sem.run_bind];cases hv:(store (a.add i) x).run P w with
  |halt y w1=>simp[Result.andThen]
  |ok u w1=>
   simp only[Result.andThen_ok];rw[ED xs ys (i+1),show i+1+xs.length=i+(xs.length+1) by omega]
   rfl
theorem yR {a:Addr} (h:a.spot=none) (k:Nat):∀(xs:List Value) (i:Nat),storeCells (a.add k) xs i=storeCells a xs (k+i)
 | [],i=>rfl
 |x::xs,i=>by
  simp only[storeCells,add_add h,yR h k xs (i+1)];rfl
theorem AZ {P:Program} {K:Nat->Prop} {t z:Nat} {v:V} {a:Addr} {len cap:Nat} (hz:nc P t=some z) (hk:ok K v) (hd:den J v= .slice (some a) len cap):
  ∀(l:List V) (j:Nat) (res res':List aB) (w:World),aX J fps res K w0 F0 w->Sv P t z v j l res=some res'->eK K l->∃w',(storeCells a (aW J l) (j*z)).run P w= .ok () w'/\aX J fps res' K w0 F0 w'/\∀i,known res' i↔known res i
 | [],j,res,res',w,h,hl,_=>by
   simp only[Sv,VE]at hl;subst hl;exact⟨w,by simp[aW,storeCells],h,fun _=>Iff.rfl⟩
 |y::l,j,res,res',w,h,hl,ho=>by
  simp only[Sv]at hl;split at hl
  case h_2=>simp at hl
  rename_i p hp;split at hl
  case h_2=>simp at hl
  rename_i res1 hr;obtain⟨p1,p2,p3⟩:=Ey hp hk hd;obtain⟨w1,e1,e2,e3⟩:=ph h hr p3 ho.1;obtain⟨w2,i1,i2,i3⟩:=AZ hz hk hd l (j+1) res1 res' w1 e2 hl ho.2;have hlen:=aT J y ho.1
  have hy:dQ y=z:=by
   unfold oC at hr;split at hr
   ·rename_i hc;simp only[VG,VI]at hc;rw[hz]at hc;simpa using hc.1.symm
   ·simp at hr
  rw[hy]at hlen;have hsz:(den J y).cells.size=z:=by rw[<-hlen];simp[cells]
  rw[p2]at e1;simp only[Instr.storeAt,Instr.sureAddr,Sem.run_bind,Sem.run_pure,Result.andThen_ok,storeVar,fi w hz,hsz,ne_eq,not_true_eq_false,if_false,Sem.run_ite]at e1;refine⟨w2,?_,i2,fun i=>(i3 i).trans (e3 i)⟩
  rw[yR p1,Nat.add_zero]at e1;simp only[aW];rw[ED,show(den J y).cells.toList.length=z from hlen];rw[show(storeCells a (den J y).cells.toList (j*z)).run P w= .ok () w1 from e1,Result.andThen_ok];rw[show j*z+z=(j+1)*z by rw[Nat.add_mul,Nat.one_mul]]
  exact i1
theorem KM {C:Ctx} {res:List aB} {K:Nat->Prop} {ts:List Nat} {xs:List V} {ty:Nat} {r:V} {res':List aB} (h:aX J fps res K w0 F0 w) (hl:T8 C res ts xs=some (r,res')) (hx:eK K xs):
  ∃w',(Builtin.copy_ ts.toArray ty (bf J xs).toArray).run C.P w= .ok (den J r) w'/\aX J fps res' K w0 F0 w'/\(∀i,known res' i↔known res i)/\ok K r:=by
 unfold T8 at hl;split at hl
 ·rename_i r' hc;simp only[VE]at hl;subst hl;exact HJ h hc hx
 ·unfold Va at hl;split at hl
  case h_2=>simp at hl
  rename_i t t' d s;split at hl
  case h_2=>simp at hl
  rename_i e ht;split at hl
  case h_2=>simp at hl
  rename_i z a n m hz hag hn hm;split at hl
  case isFalse=>simp at hl
  rename_i hc;simp only[VG,VH]at hc;obtain⟨rfl,hin⟩:=hc;split at hl
  case h_2=>simp at hl
  rename_i l hr;split at hl<;>simp only[VE,VF,reduceCtorEq]at hl
  rename_i res1 hw;obtain⟨rfl,rfl⟩:=hl;obtain⟨hxd,hxs,_⟩:=hx;obtain⟨ad,cd,hd⟩:=EE (J:=J) hn;obtain⟨as,cs,hs⟩:=EE (J:=J) hm;obtain⟨r1,r2,r3⟩:=A9 h hag hz hxs hs _ _ _ hr;obtain⟨w',e1,e2,e3⟩:=AZ hz hxd hd l 0 res res1 w h hw r2;refine⟨w',?_,e2,e3,hin⟩;have r1:=r1 #[];simp only[Nat.zero_mul,Array.empty_append]at r1 e1;simp only[bf,hd,hs,Builtin.copy_,List.size_toArray,List.getElem?_toArray]
  simp only[List.getElem?_cons_zero,List.getElem?_cons_succ,Sem.run_bind,bd w ht,Result.andThen_ok,Builtin.lenOf,Sem.run_pure,fi w hz,Builtin.firstCells,loadCells,r1,e1,goInt,den]
theorem jM.after {U:St} {ρ':Env} {fps':Nat->Nat->Prop} {res':List aB} {w':World} (h:jM J fps U w0 F0 a w) (hH:aX ρ' fps' res' (known res') w0 F0 w') (hg:Good J U.res ρ' res'):
  jM ρ' fps' {U with res:=res'} w0 F0 a w':=by
 obtain⟨h1,h2,h3,h4⟩:=h;obtain⟨e1,e2⟩:=eA h4 hg.1 hg.2;exact⟨h1.env hg.2 hg.1,hH,by rw[h3];exact e1.symm,e2⟩
def Aq (P:Program) (Y:cK) (ρ0:Env) (res0:List aB):Prop:=
 ∀k args res K KP,Y k args res K KP->∀J fps w0 F0 w,Good ρ0 res0 J res->aX J fps res (known res) w0 F0 w->known res k->eK (known res) args->
  ∃l fn tmps assign body,(Instr.yield (J.num k) (bf J args).toArray).run P w= .ok (.round l fn tmps assign body) w/\
   ∀ro,RoundIn (FF P ro) 0 P l fn tmps assign body w fun e w'=>∃x ρ' fps' res',aX ρ' fps' res' (known res') w0 F0 w'/\Good J res ρ' res'/\ok (known res') x/\
    ((e= .returned (den ρ' x)/\K x res')\/(e= .panicked [{v:=den ρ' x,recovered:=false}]/\KP x res'))
theorem Aq.A0 {P:Program} {Y:cK} {ρ0 ρ1:Env} {res0 res1:List aB} (h:Aq P Y ρ0 res0) (hg:Good ρ0 res0 ρ1 res1):Aq P Y ρ1 res1:=
 fun k args res K KP hy J fps w0 F0 w hg1=>h k args res K KP hy J fps w0 F0 w (hg.trans hg1)
theorem QE {P:Program} {ρ0:Env} {res0:List aB}:Aq P UT ρ0 res0:=fun _ _ _ _ _ h=>h.elim
theorem DR {o:Oper} {U:St} {ch:List (Nat×Bool)} {q:Option Prop} {x:V} {new:List aB} {K:St->Prop} {next:Act->World->Prop} {Q:Exit->Act->World->Prop} {ro:Option Nat} (hC:C.Sound)
  (ho:Ab C U.slots U.res U.res.length ch o.op=some (q,x,new)) (hg:lh U.slots ch=true) (h:oh U.slots o.dst (.v x) fun sl=>Be q (K {U with slots:=sl,res:=mV U.res new})) (hr:jM J fps U w0 F0 a w)
  (hn:∀σ' ρ' fps' a' w',K σ'->jM ρ' fps' σ' w0 F0 a' w'->Good J U.res ρ' σ'.res->next a' w'):o.uponIn (FF C.P ro) 0 C.P a next Q ((execOp a.eval o).run C.P w):=by
 obtain⟨h1,h2,h3,h4⟩:=hr;rw[jS]at h;split at h
 ·rename_i sl hsl;obtain⟨hq,hK⟩:=nt h;have hfr:∀k,k<new.length->¬known U.res (U.res.length+k):=fun k _ hk=>by have:=aF hk;omega
  obtain⟨hy,hnew⟩:=lA hC ho h1 h2 hg hq hfr;refine hy.wp fun v w' ⟨ρ',hg,hv,hx⟩=>?_
  have hfr':∀i,known U.res i->¬fresh U.res.length new.length i:=fun i hi hf=>by have:=aF hi;unfold fresh at hf;omega
  have hK':∀i,known U.res i\/fresh U.res.length new.length i->known (mV U.res new) i:=by
   intro i hi;rw[qk];obtain⟨b1,b2,b3⟩:=jC U.res new;rcases hi with hi|⟨f1,f2⟩
   ·unfold known;rw[(b1 i hi).1];exact hi
   ·have:=b3 (i-U.res.length) (by omega)
    rw[show U.res.length+(i-U.res.length)=i by omega]at this
    unfold known;rw[this];exact hnew _ (by omega)
  obtain⟨fps',g1,g2⟩:=h2.grow (res':=mV U.res new) (by rw[qk];exact jC _ _) hfr' hK' hg
  obtain⟨e1,e2⟩:=eA h4 g2 (fun i hi=>hK' i (.inl hi))
  refine hn _ ρ' fps' _ _ hK ⟨?_,g1,by rw[put_defers,h3];exact e1.symm,e2⟩ ⟨g2,fun i hi=>hK' i (.inl hi)⟩
  exact(h1.env (fun i hi=>hK' i (.inl hi)) g2).m7 hsl fun _ _ _ _=>⟨hv,cL hK' _ hx⟩
 ·exact h.elim
theorem yj {H:Handler} {Y:cK} {o:Oper} {U:St} {ch:List (Nat×Bool)} {K:St->Prop} {KP:V->St->Prop} {next:Act->World->Prop} {Q:Exit->Act->World->Prop} {ro:Option Nat} (hC:C.Sound) (hH:H.OK C.P) (hY:Aq C.P Y J U.res)
  (hd:ro≠none->dw o) (hab:∀f,o.about C.P w a.eval=some f->(C.P.funcs[f]?).isSome=true) (h:OA C H Y U ch o K KP) (hg:lh U.slots ch=true) (hr:jM J fps U w0 F0 a w)
  (hn:∀σ' ρ' fps' a' w',K σ'->jM ρ' fps' σ' w0 F0 a' w'->Good J U.res ρ' σ'.res->next a' w')
  (hp:∀v σ' ρ' fps' w',KP v σ'->ok (known σ'.res) v->jM ρ' fps' σ' w0 F0 a w'->Good J U.res ρ' σ'.res->Q (.panic [{v:=den ρ' v,recovered:=false}]) a w'):
  o.wpIn (FF C.P ro) 0 C.P a w next Q:=by
 have hr0:=hr;obtain⟨h1,h2,h3,h4⟩:=hr;have ov:∀{o:Operand} {y:V},dY U.slots ch o=some y->a.eval o=den J y/\ok (known U.res) y:=fun ho=>fJ h1 hg ho
 obtain⟨dst,op,type,pos,after,guard⟩:=o;cases op<;>simp only[OA]at h
 case store t p x=>
  split at h
  ·rename_i pv xv hpv hxv;split at h
   ·rename_i res' hs;obtain⟨w',e1,e2,e3⟩:=ph h2 hs (ov hpv).2 (ov hxv).2
    have hrun:(execOp a.eval {dst:=none,op:= .store t p x,type,pos,after,guard}).run C.P w= .ok .skip w':=by
     simp[execOp,(ov hpv).1,(ov hxv).1,e1]
    refine dH hd hab ?_;rw[hrun]
    refine hn _ J fps _ _ h ⟨?_,e2.rR fun i hi=>(e3 i).2 hi,h3,fun d hd=>⟨b8 (fun i hi=>(e3 i).2 hi) _ (h4 d hd).1,b8 (fun i hi=>(e3 i).2 hi) _ (h4 d hd).2⟩⟩
     ⟨Env.bc.refl _ _,fun i hi=>(e3 i).2 hi⟩
    exact h1.env (fun i hi=>(e3 i).2 hi) (Env.bc.refl _ _)
   ·split at h
    ·rename_i q res' hs;obtain⟨hq,hK⟩:=nt h;obtain⟨w',ρ',fps',e1,e2,e3,e4⟩:=AN h2 hs hq (ov hpv).2 (ov hxv).2
     have hrun:(execOp a.eval {dst:=none,op:= .store t p x,type,pos,after,guard}).run C.P w= .ok .skip w':=by
      simp[execOp,(ov hpv).1,(ov hxv).1,e1]
     refine dH hd hab ?_;rw[hrun];obtain⟨d1,d2⟩:=eA h4 e3 e4;exact hn _ ρ' fps' _ _ hK ⟨h1.env e4 e3,e2,by rw[show(a.put none undef).defers=a.defers from rfl,h3];exact d1.symm,d2⟩ ⟨e3,e4⟩
    ·exact h.elim
  ·exact h.elim
 case insert t m k x=>
  split at h
  case h_2=>exact h.elim
  rename_i mv kv xv hmv hkv hxv
  obtain⟨res',hs,h⟩:∃res',(OC C.P U.res t mv kv xv=some res'\/Lz C.P U.res t mv kv xv=some res')/\K {U with res:=res'}:=by
   split at h
   ·rename_i res' hs;exact⟨res',.inl hs,h⟩
   ·split at h
    ·rename_i res' hs;exact⟨res',.inr hs,h⟩
    ·exact h.elim
  obtain⟨w',e1,e2,e3⟩:∃w',(Instr.mapUpdate t (den J mv) (den J kv) (den J xv)).run C.P w= .ok () w'/\aX J fps res' (known U.res) w0 F0 w'/\∀i,known res' i↔known U.res i:=by
   rcases hs with hs|hs
   ·exact Gg h2 hs (ov hxv).2
   ·exact Gx h2 hs (ov hkv).2 (ov hxv).2
  have hrun:(execOp a.eval {dst:=none,op:= .insert t m k x,type,pos,after,guard}).run C.P w= .ok .skip w':=by
   simp[execOp,(ov hmv).1,(ov hkv).1,(ov hxv).1,e1]
  refine dH hd hab ?_;rw[hrun]
  refine hn _ J fps _ _ h ⟨?_,e2.rR fun i hi=>(e3 i).2 hi,h3,fun d hd=>⟨b8 (fun i hi=>(e3 i).2 hi) _ (h4 d hd).1,b8 (fun i hi=>(e3 i).2 hi) _ (h4 d hd).2⟩⟩
   ⟨Env.bc.refl _ _,fun i hi=>(e3 i).2 hi⟩
  exact h1.env (fun i hi=>(e3 i).2 hi) (Env.bc.refl _ _)
 case panic x=>
  split at h
  ·rename_i t y hx;obtain⟨e1,e2⟩:=ov hx
   have hrun:(execOp a.eval {dst,op:= .panic x,type,pos,after,guard}).run C.P w= .halt (.panic (den J (.ic t y))) w:=by
    simp[execOp,e1,den,Instr.panic]
   refine dH hd hab ?_;rw[hrun];exact hp _ _ J fps w h e2 ⟨h1.clean,h2,h3,h4⟩ (Good.refl _ _)
  ·exact h.elim
 case call c=>
  split at h
  ·rename_i f hf
   have fnCall:∀(g:Nat) (caps vs:List V),a.eval f=Ck g (bf J caps)->eK (known U.res) caps->kY U.slots ch c.args.toList=some vs->gi C.P (Cn g)=true->H (Cn g) (Mv g vs caps) U.res
     (fun x res'=>oh U.slots dst (.v x) fun sl=>K {U with slots:=sl,res:=res'}) (fun x res'=>KP x {U with slots:=clean U.slots,res:=res'})->Oper.wpIn (FF C.P ro) 0 C.P ⟨dst,.call c,type,pos,after,guard⟩ a w next Q:=by
    intro g caps vs e1 e2' has hcall hh;obtain⟨e3,e4⟩:=fx h1 hg has;have hca:=hH _ _ _ _ _ hh J fps w0 F0 w h2 (Rh e4 e2')
    have hrun:(execOp a.eval {dst,op:= .call c,type,pos,after,guard}).run C.P w= .ok (.enter (Cn g) (bf J (Mv g vs caps)).toArray) w:=by
     obtain⟨callee,args,argTypes⟩:=c;simp only at hf;subst hf;unfold gi at hcall;split at hcall
     ·rename_i fn hfn;simp only[VG,bne_iff_ne,ne_eq]at hcall;have hnm:(fn.name== "runtime.NumGoroutine")=false:=by simpa using hcall.1
      have hbd:fn.body.isNone=false:=by
       cases hb:fn.body with
       |none=>simp[hb]at hcall
       |some _=>rfl
      have ha:args.map a.eval=(bf J vs).toArray:=by apply Array.ext';simp[e3]
      unfold Ck at e1;unfold Cn at hfn⊢;unfold Mv;cases hlo:Nat.blt g 2000 with
      |true=>
       simp only[hlo,if_true]at e1 hfn⊢;have hcat:(bf J vs).toArray++(bf J caps).toArray=(bf J (vs++caps)).toArray:=by simp[ia]
       simp only[execOp,resolve,e1,den,Deferred.ofValue,ha,Sem.run_bind,Sem.run_pure,Result.andThen_ok,invoke,callFunc,run_program,hfn,hnm,Bool.false_eq_true,if_false,hbd,
        Array.empty_append,hcat]
      |false=>
       simp only[hlo,Bool.false_eq_true,if_false]at e1 hfn⊢;have hcat:(bf J caps).toArray++(bf J vs).toArray=(bf J (caps++vs)).toArray:=by simp[ia]
       simp only[execOp,resolve,e1,den,Deferred.ofValue,ha,Sem.run_bind,Sem.run_pure,Result.andThen_ok,invoke,callFunc,run_program,hfn,hnm,Bool.false_eq_true,if_false,hbd,
        Array.append_empty,hcat]
     ·simp at hcall
    refine dH hd hab ?_;rw[hrun];refine⟨fun h=>by simp[FF]at h,CallsIn.mono (xf hca) fun e w' ⟨x,ρ',fps',res',g1,g2,g3,g4⟩=>?_⟩
    have hra:=hr0.after g1 g2;rcases g4 with⟨rfl,hK⟩|⟨rfl,hK⟩
    ·simp only;rw[jS]at hK;split at hK
     ·rename_i sl hsl;obtain⟨k1,k2,k3,k4⟩:=hra;exact hn _ ρ' fps' _ _ hK ⟨k1.m7 hsl fun _ _ _ _=>⟨rfl,g3⟩,k2,by rw[put_defers];exact k3,k4⟩ g2
     ·exact hK.elim
    ·obtain⟨k1,k2,k3,k4⟩:=hra;exact hp _ _ ρ' fps' w' hK g3 ⟨k1.clean,k2,k3,k4⟩ g2
   split at h
   ·rename_i g caps vs hfv has;obtain⟨e1,e2⟩:=ov hfv;exact fnCall g caps vs e1 e2 has h.1 h.2
   ·rename_i b g caps y vs hfv has;obtain⟨e1,e2⟩:=ov hfv;obtain⟨g',caps',d1,d2,d3,d4⟩:=uh (J:=J) _ h e2;exact fnCall g' caps' vs (e1.trans d1) d2 has d3 d4
   ·rename_i k vs hfv has;obtain⟨e1,e2⟩:=ov hfv;obtain⟨e3,e4⟩:=fx h1 hg has;obtain⟨l,fn,tmps,assign,body,y1,y2⟩:=hY _ _ _ _ _ h J fps w0 F0 w (Good.refl _ _) h2 e2 e4;refine⟨hab,?_⟩
    have hsem:Oper.semAt (FF C.P ro).round a.eval {dst,op:= .call c,type,pos,after,guard}=execOp a.eval {dst,op:= .call c,type,pos,after,guard}:=by
     show Oper.semAt ro _ _=_
     cases ro with
     |none=>exact Oper.semAt_none _ _
     |some l=>exact Oper.semAt_some l _ _ (fun c=>by simp)
    rw[hsem]
    have hrun:(execOp a.eval {dst,op:= .call c,type,pos,after,guard}).run C.P w= .ok (.round l fn tmps assign body) w:=by
     obtain⟨callee,args,argTypes⟩:=c;simp only at hf;subst hf;have ha:args.map a.eval=(bf J vs).toArray:=by apply Array.ext';simp[e3]
     simp only[execOp,resolve,e1,den,Deferred.ofValue,ha,Sem.run_bind,Sem.run_pure,Result.andThen_ok,invoke,callFunc,Array.empty_append,Array.append_empty];exact y1
    rw[hrun];refine⟨fun h=>by simp[FF]at h,RoundIn.mono (y2 ro) fun e w' ⟨x,ρ',fps',res',g1,g2,g3,g4⟩=>?_⟩
    have hra:=hr0.after g1 g2;rcases g4 with⟨rfl,hK⟩|⟨rfl,hK⟩
    ·simp only;rw[jS]at hK;split at hK
     ·rename_i sl hsl;obtain⟨k1,k2,k3,k4⟩:=hra;exact hn _ ρ' fps' _ _ hK ⟨k1.m7 hsl fun _ _ _ _=>⟨rfl,g3⟩,k2,by rw[put_defers];exact k3,k4⟩ g2
     ·exact hK.elim
    ·obtain⟨k1,k2,k3,k4⟩:=hra;exact hp _ _ ρ' fps' w' hK g3 ⟨k1.clean,k2,k3,k4⟩ g2
   ·exact h.elim
  ·rename_i hcal;split at h
   ·rename_i t t' x y hts has;split at h
    ·rename_i htt;have htt:=VI.1 htt;subst htt;split at h
     ·rename_i q v res' hap;obtain⟨hq,hK⟩:=nt h;rw[jS]at hK;split at hK
      ·rename_i sl hsl;obtain⟨e3,e4⟩:=fx h1 hg has;obtain⟨w',ρ',fps',g1,g2,g3,g4,g5⟩:=Fk (ty:=type) hC.z h2 hap hq e4.1
       have hrun:(execOp a.eval {dst,op:= .call c,type,pos,after,guard}).run C.P w= .ok (.value (den ρ' v)) w':=by
        obtain⟨callee,args,argTypes⟩:=c;simp only at hcal hts e3;subst hcal;have ha:args.map a.eval= #[den J x,den J y]:=by apply Array.ext';simp[e3,bf]
        have hty:argTypes= #[t,t]:=by apply Array.ext';simpa using hts
        subst hty;simp only[execOp,resolve,Sem.run_bind,Sem.run_pure,Result.andThen_ok,invoke,builtin,ha];rw[g1];rfl
       refine dH hd hab ?_;rw[hrun];obtain⟨k1,k2,k3,k4⟩:=hr0.after g2 ⟨g3,g4⟩;exact hn _ ρ' fps' _ _ hK ⟨k1.m7 hsl fun _ _ _ _=>⟨rfl,g5⟩,k2,by rw[put_defers];exact k3,k4⟩ ⟨g3,g4⟩
      ·exact hK.elim
     ·exact h.elim
    ·exact h.elim
   ·exact h.elim
  ·rename_i hcal;split at h
   case h_2=>exact h.elim
   rename_i vs has;split at h
   case h_2=>exact h.elim
   rename_i v res' hcp;rw[jS]at h;split at h
   case h_2=>exact h.elim
   rename_i sl hsl;obtain⟨e3,e4⟩:=fx h1 hg has;obtain⟨w',g1,g2,g3,g5⟩:=KM (ty:=type) h2 hcp e4
   have hrun:(execOp a.eval {dst,op:= .call c,type,pos,after,guard}).run C.P w= .ok (.value (den J v)) w':=by
    obtain⟨callee,args,argTypes⟩:=c;simp only at hcal e3;subst hcal;have ha:args.map a.eval=(bf J vs).toArray:=by apply Array.ext';simp[e3]
    simp only[execOp,resolve,Sem.run_bind,Sem.run_pure,Result.andThen_ok,invoke,builtin,ha];simp only[Array.toArray_toList]at g1;rw[g1];rfl
   refine dH hd hab ?_;rw[hrun];have hgd:Good J U.res J res':=⟨Env.bc.refl _ _,fun i hi=>(g3 i).2 hi⟩
   obtain⟨k1,k2,k3,k4⟩:=hr0.after (g2.rR fun i hi=>(g3 i).2 hi) hgd
   exact hn _ J fps _ _ h ⟨k1.m7 hsl fun _ _ _ _=>⟨rfl,cL (fun i hi=>(g3 i).2 hi) _ g5⟩,k2,by rw[put_defers];exact k3,k4⟩ hgd
  ·rename_i hcal;split at h
   case h_2=>exact h.elim
   rename_i vs has;split at h
   case h_2=>exact h.elim
   rename_i res' hcp;rw[jS]at h;split at h
   case h_2=>exact h.elim
   rename_i sl hsl;obtain⟨e3,e4⟩:=fx h1 hg has;obtain⟨w',g1,g2,g3⟩:=FA (ty:=type) hC.z h2 hcp e4
   have hrun:(execOp a.eval {dst,op:= .call c,type,pos,after,guard}).run C.P w= .ok (.value (den J (.tp []))) w':=by
    obtain⟨callee,args,argTypes⟩:=c;simp only at hcal e3;subst hcal;have ha:args.map a.eval=(bf J vs).toArray:=by apply Array.ext';simp[e3]
    simp only[execOp,resolve,Sem.run_bind,Sem.run_pure,Result.andThen_ok,invoke,builtin,ha];simp only[Array.toArray_toList]at g1;rw[g1];rfl
   refine dH hd hab ?_;rw[hrun];have hgd:Good J U.res J res':=⟨Env.bc.refl _ _,fun i hi=>(g3 i).2 hi⟩
   obtain⟨k1,k2,k3,k4⟩:=hr0.after (g2.rR fun i hi=>(g3 i).2 hi) hgd
   exact hn _ J fps _ _ h ⟨k1.m7 hsl fun _ _ _ _=>⟨rfl,trivial⟩,k2,by rw[put_defers];exact k3,k4⟩ hgd
  ·exact h.elim
 case defer c=>
  split at h
  ·rename_i f hf;split at h
   ·rename_i g caps vs hfv has;obtain⟨e1,e2⟩:=ov hfv;obtain⟨e3,e4⟩:=fx h1 hg has;split at h
    case h_2=>exact h.elim
    rename_i hmk;split at h
    case isFalse=>exact h.elim
    rename_i hlo;have e1:a.eval f= .func (.func g) #[] (bf J caps).toArray:=e1.trans (xk hlo)
    have hrun:(execOp a.eval {dst:=none,op:= .defer c,type,pos,after,guard}).run C.P w= .ok (.defer {target:= .fn (.func g) (bf J caps).toArray,args:=(bf J vs).toArray}) w:=by
     obtain⟨callee,args,argTypes⟩:=c;simp only at hf;subst hf;have ha:args.map a.eval=(bf J vs).toArray:=by apply Array.ext';simp[e3]
     simp[execOp,resolve,e1,den,Deferred.ofValue,ha]
    refine dH hd hab ?_;rw[hrun];refine hn _ J fps _ _ h ⟨h1,h2,by simp[Act.put,h3,j6,hmk],fun d hd=>?_⟩ (Good.refl _ _)
    rcases List.mem_cons.1 hd with rfl|hd
    ·exact⟨e4,e2⟩
    ·exact h4 d hd
   ·exact h.elim
  ·exact h.elim
theorem B5 (ch:List (Nat×Bool)):∀(l:List S) (i t:Nat),bD (El ch i l) t=zL ch (i+t) (bD l t)
 | [],i,t=>by simp[El,bD,zL]
 |s::l,i,0=>by simp[El,bD]
 |s::l,i,t+1=>by simp only[El,bD];rw[B5 ch l (i+1) t,show i+1+t=i+(t+1) by omega]
theorem wH (ch:List (Nat×Bool)):∀(l:List S) (i:Nat),(El ch i l).length=l.length
 | [],_=>rfl
 |s::l,i=>by simp[El,wH ch l]
theorem yE (q:Nat) (w:Bool):∀(l:List S) (i t:Nat),bD (Bt q w i l) t=fixF q w (i+t) (bD l t)
 | [],i,t=>by simp[Bt,bD,fixF]
 |s::l,i,0=>by simp[Bt,bD]
 |s::l,i,t+1=>by simp only[Bt,bD];rw[yE q w l (i+1) t,show i+1+t=i+(t+1) by omega]
theorem uB (q:Nat) (w:Bool):∀(l:List S) (i:Nat),(Bt q w i l).length=l.length
 | [],_=>rfl
 |s::l,i=>by simp[Bt,uB q w l]
theorem vC:∀{ch:List (Nat×Bool)} {i:Nat} {w:Bool},uN ch i=some w->(i,w)∈ch
 | [],_,_,h=>by simp[uN]at h
 | (s,v)::c,i,w,h=>by
   simp only[uN]at h;split at h
   ·rename_i e;have e:=VI.1 e;simp only[VE]at h;subst e;subst h;simp
   ·exact List.mem_cons_of_mem _ (vC h)
theorem KT {sl:List S} {ch:List (Nat×Bool)} (hg:lh sl ch=true) (t:Nat):raw (zL ch t (bD sl t))=raw (bD sl t):=by
 have key:∀w,uN ch t=some w->raw (bD sl t)=some w:=fun w hw=>(uT sl ch).1 hg (t,w) (vC hw)
 cases hs:bD sl t with
 |und=>rfl
 |ud=>rfl
 |v y=>
  rw[hs]at key;cases y<;>try rfl
  simp only[zL];cases hw:uN ch t with
  |none=>rfl
  |some w=>exact(key w hw).symm
 |gv c y=>
  rw[hs]at key;simp only[zL];split
  ·cases y<;>try rfl
   simp only;cases hw:uN ch t with
   |none=>rfl
   |some w=>exact(key w hw).symm
  ·rfl
theorem Al {sl sl':List S} (h:∀t,raw (bD sl' t)=raw (bD sl t)):∀c,lh sl' c=lh sl c
 | []=>rfl
 | (s,w)::c=>by rw[gQ,gQ,h,Al h c]
theorem gP.El {K:Nat->Prop} {sl:List S} {ch:List (Nat×Bool)} (h:gP J K sl a) (hg:lh sl ch=true):gP J K (El ch 0 sl) a:=by
 have hget:∀t,bD (Sx.El ch 0 sl) t=zL ch t (bD sl t):=fun t=>by rw[B5,Nat.zero_add]
 have hraw:∀t,raw (bD (Sx.El ch 0 sl) t)=raw (bD sl t):=fun t=>by rw[hget,KT hg]
 refine⟨by rw[wH];exact h.1,fun t=>?_⟩
 rw[hget];have ht:=h.2 t;have key:∀w,uN ch t=some w->raw (bD sl t)=some w:=fun w hw=>(uT sl ch).1 hg (t,w) (vC hw)
 cases hs:bD sl t with
 |und=>trivial
 |ud=>rw[hs]at ht;exact ht
 |v y=>
  rw[hs]at ht key;cases y<;>try exact ht
  simp only[zL];cases hw:uN ch t with
  |none=>exact ht
  |some w=>
   have:=key w hw;simp only[raw,VE]at this;subst this;exact ht
 |gv c y=>
  rw[hs]at ht key;simp only[zL];split
  ·rename_i hsub;obtain⟨e1,e2⟩:=ht.1 (EZ hsub hg);cases y<;>try exact⟨e1,e2⟩
   simp only;cases hw:uN ch t with
   |none=>exact⟨e1,e2⟩
   |some w=>
    have:=key w hw;simp only[raw,VE]at this;subst this;exact⟨e1,e2⟩
  ·exact⟨fun hgc=>ht.1 (by rwa [Al hraw]at hgc),fun hgc=>ht.2 (by rwa [Al hraw]at hgc)⟩
theorem gP.Ss {K:Nat->Prop} {sl:List S} {ch:List (Nat×Bool)} (h:gP J K sl a) (hg:lh sl ch=false):gP J K (Ss ch sl) a:=by
 unfold Sx.Ss;split
 ·rename_i q w;split
  ·rename_i b hq
   have hb:b= !w:=by
    rw[gQ,hq]at hg;simp only[raw,lh,Bool.and_true]at hg;cases w<;>simp_all
   refine⟨by rw[uB];exact h.1,fun t=>?_⟩
   rw[yE,Nat.zero_add];have ht:=h.2 t;cases hs:bD sl t with
   |und=>trivial
   |ud=>rw[hs]at ht;exact ht
   |v y=>
    rw[hs]at ht;cases y<;>try exact ht
    simp only[fixF];split
    ·rename_i e;have e:=VI.1 e;subst e;rw[hq]at hs;simp only[S.v.injEq,V.bo.injEq]at hs;subst hs;rw[<-hb];exact ht
    ·exact ht
   |gv c y=>
    rw[hs]at ht;simp only[fixF];split
    ·rename_i hc;refine ht.2 ?_;cases hgc:lh sl c with
     |false=>rfl
     |true=>
      simp only[E0,List.any_eq_true,VG,VI]at hc;obtain⟨p,hp,e1,e2⟩:=hc;have:=(uT sl c).1 hgc p hp;rw[e1,e2,hq]at this;simp only[raw,VE]at this;rw[this]at hb;cases w<;>simp at hb
    ·trivial
  ·exact h
 ·exact h
theorem km {H:Handler} {Y:cK} {ops:Array Oper} {o:Oper} {U:St} {K:St->Prop} {KP:V->St->Prop} {next:Act->World->Prop} {Q:Exit->Act->World->Prop} {ro:Option Nat} (hC:C.Sound) (hH:H.OK C.P) (hY:Aq C.P Y J U.res)
  (hd:ro≠none->dw o) (h:vP C H Y ops.toList o U K KP) (hr:jM J fps U w0 F0 a w)
  (hn:∀σ' ρ' fps' a' w',K σ'->jM ρ' fps' σ' w0 F0 a' w'->Good J U.res ρ' σ'.res->next a' w')
  (hp:∀v σ' ρ' fps' w',KP v σ'->ok (known σ'.res) v->jM ρ' fps' σ' w0 F0 a w'->Good J U.res ρ' σ'.res->Q (.panic [{v:=den ρ' v,recovered:=false}]) a w'):
  (∀f,o.about C.P w a.eval=some f->(FF C.P ro).fn f)/\if Region.wanted o (yielded ops a.tmps)then o.wpIn (FF C.P ro) 0 C.P a w next Q else next (a.put o.dst undef) w:=by
 have hr0:=hr;obtain⟨h1,h2,h3,h4⟩:=hr
 have skip:(oh U.slots o.dst .ud fun sl=>K {U with slots:=sl})->next (a.put o.dst undef) w:=fun h=>by
  rw[jS]at h;split at h
  ·rename_i sl hsl;exact hn _ J fps _ _ h ⟨h1.m7 hsl fun _ _ _ _=>rfl,h2,by rw[put_defers];exact h3,h4⟩ (Good.refl _ _)
  ·exact h.elim
 unfold vP at h;split at h
 case isFalse=>exact h.elim
 rename_i hab;have hab:=A4 h1 hab w;refine⟨hab,?_⟩;split at h
 ·exact h.elim
 ·rename_i hc;rw[ld h1 hc];simp only[td,Bool.false_eq_true,if_false];exact skip h
 ·rename_i ch hc;rw[ld h1 hc];rw[show td U.slots (some ch)=lh U.slots ch from rfl];split at h
  ·rename_i q x new ho;split at h
   ·rename_i hch;have hch:ch= []:=by simpa using hch
    subst hch;simp only[lh,if_true];exact dH hd hab (DR hC ho rfl h hr0 hn)
   ·split at h
    ·rename_i hne;have hne:new= []:=by simpa using hne
     subst hne;rw[jS]at h;split at h
     ·rename_i sl hsl;obtain⟨hq,hK⟩:=AA h;by_cases hgo:lh U.slots ch=true
      ·rw[VN hgo];obtain⟨hy,_⟩:=lA hC ho h1 h2 hgo (hq hgo) fun k hk=>by simp at hk
       refine dH hd hab (hy.wp fun v w' ⟨ρ',hg,hv,hx⟩=>?_)
       have hfr':∀i,known U.res i->¬fresh U.res.length ([]:List aB).length i:=fun i hi hf=>by unfold fresh at hf;simp at hf;omega
       have hK':∀i,known U.res i\/fresh U.res.length ([]:List aB).length i->known U.res i:=fun i hi=>by
        rcases hi with hi|hf
        ·exact hi
        ·unfold fresh at hf;simp at hf;omega
       obtain⟨fps',g1,g2⟩:=h2.grow (res':=U.res) (by have:=jC U.res [];simpa using this) hfr' hK' hg
       obtain⟨e1,e2⟩:=eA h4 g2 (fun i hi=>hi)
       refine hn _ ρ' fps' _ _ hK ⟨?_,g1,by rw[put_defers,h3];exact e1.symm,e2⟩ ⟨g2,fun i hi=>hi⟩
       refine(h1.env (fun i hi=>hi) g2).m7 hsl fun d hd hf hnm=>⟨fun _=>⟨hv,cL hK' _ hx⟩,fun hgf=>?_⟩
       rw[sX (hnm ch x rfl),hgo]at hgf;simp at hgf
      ·rw[VM hgo];refine hn _ J fps _ _ hK ⟨?_,h2,by rw[put_defers];exact h3,h4⟩ (Good.refl _ _)
       refine h1.m7 hsl fun d hd hf hnm=>⟨fun hgt=>?_,fun _=>rfl⟩
       rw[sX (hnm ch x rfl)]at hgt;exact absurd hgt hgo
     ·exact h.elim
    ·obtain⟨ht,hf⟩:=h;split
     ·rename_i hgo;exact dH hd hab (DR hC ho hgo (ht hgo) hr0 hn)
     ·rename_i hgo;exact skip (hf (by simpa using hgo))
  ·split at h
   ·rename_i hch;have hch:ch= []:=by simpa using hch
    subst hch;simp only[lh,if_true];exact yj hC hH hY hd hab h rfl hr0 hn hp
   ·obtain⟨ht,hf⟩:=h;simp only[sk]at ht hf;split
    ·rename_i hgo;exact yj (U:= {U with slots:=El ch 0 U.slots}) hC hH hY hd hab (ht hgo) rfl ⟨h1.El hgo,h2,h3,h4⟩ hn hp
    ·rename_i hgo;have hf:=hf (by simpa using hgo)
     rw[jS]at hf;split at hf
     ·rename_i sl hsl;exact hn _ J fps _ _ hf ⟨(h1.Ss (by simpa using hgo)).m7 hsl fun _ _ _ _=>rfl,h2,by rw[put_defers];exact h3,h4⟩ (Good.refl _ _)
     ·exact hf.elim
end
end Go.Sx
namespace Go.Sx
open Go.RowKit (Below)
def ib:List Prop->Prop
 | []=>True
 | [p]=>p
 |p::l=>p/\ib l
theorem rz:∀l:List Prop,ib l↔ ∀p∈l,p
 | []=>by simp[ib]
 | [p]=>by simp only[ib,List.mem_singleton];exact⟨fun h q hq=>hq▸h,fun h=>h p rfl⟩
 |p::q::l=>by
  have:=rz (q::l);simp only[ib,List.mem_cons,forall_eq_or_imp]at this⊢;rw[this]
def oG (a b:Option (List Prop)):Option (List Prop):=
 match a,b with
 |some x,some y=>some (x++y)
 |_,_=>none
def mh (b:Bool) (l:List Prop):Option (List Prop):=if b then some l else none
mutual
def uM:V->V->Option (List Prop)
 | .cb a,.cb b=>some [a=b]
 | .cb a,.bo b=>some [a=b]
 | .bo a,.cb b=>some [a=b]
 | .bo a,.bo b=>some [a=b]
 | .ci k a,.ci k' b=>mh (k==k'&&decide (a=b)) []
 | .ci k a,.it k' b=>mh (k==k') [a=b]
 | .it k a,.ci k' b=>mh (k==k') [a=b]
 | .it k a,.it k' b=>mh (k==k') [a=b]
 | .bt a,.bt b=>some [a=b]
 | .st a,.st b=>some [a=b]
 | .nl a,.nl b=>some [a=b]
 | .lp i o,.lp i' o'=>mh (i==i'&&o==o') []
 | .lx a b c d i e,.lx a' b' c' d' i' e'=>mh (a==a'&&b==b'&&c==c'&&e==e') [d=d',i=i']
 | .sc i n c,.sc i' n' c'=>mh (i==i') [n=n',c=c']
 | .so i n,.so i' n'=>mh (i==i') [n=n']
 | .ap i e j o,.ap i' e' j' o'=>mh (i==i'&&e==e'&&o==o') [j=j']
 | .sa i,.sa i'=>mh (i==i') []
 | .op i n,.op i' n'=>mh (i==i') [n=n']
 | .yl i,.yl i'=>mh (i==i') []
 | .fn f l,.fn g m=>if f==g then qz l m else none
 | .ic t x,.ic u y=>if t==u then uM x y else none
 | .ag l,.ag m=>qz l m
 | .tp l,.tp m=>qz l m
 | .key a,.key b=>some [a=b]
 | .sl a,.sl b=>some [a=b]
 | .by a,.by b=>some [a=b]
 | .ob a,.ob b=>some [a=b]
 |_,_=>none
def qz:List V->List V->Option (List Prop)
 | [],[]=>some []
 |x::l,y::m=>oG (uM x y) (qz l m)
 |_,_=>none
end
def rn (J:Env) (K:Nat->Prop) (x y:V):Prop:=den J x=den J y/\(ok K x->ok K y)/\bR x=bR y
def Tu (J:Env) (K:Nat->Prop) (x y:List V):Prop:=bf J x=bf J y/\aW J x=aW J y/\(eK K x->eK K y)/\(qI x->qI y)
theorem rn.refl (J:Env) (K:Nat->Prop) (x:V):rn J K x x:=⟨rfl,id,rfl⟩
theorem ju {a b:Option (List Prop)} {l:List Prop} (h:oG a b=some l) (hl:ib l):∃x y,a=some x/\b=some y/\ib x/\ib y:=by
 unfold oG at h;split at h<;>simp only[VE,reduceCtorEq]at h
 rename_i x y;subst h;rw[rz]at hl;exact⟨x,y,rfl,rfl,(rz x).2 fun p hp=>hl p (List.mem_append.2 (.inl hp)),(rz y).2 fun p hp=>hl p (List.mem_append.2 (.inr hp))⟩
theorem eW {b:Bool} {l m:List Prop} (h:mh b l=some m):b=true/\m=l:=by
 unfold mh at h;split at h<;>simp_all
mutual
theorem pJ (J:Env) (K:Nat->Prop):∀(x y:V) (l:List Prop),uM x y=some l->ib l->rn J K x y
 | .fn f l,y,m,h,hl=>by
   cases y<;>simp only[uM,reduceCtorEq]at h
   split at h
   ·rename_i he;have he:=VI.1 he;subst he;obtain⟨a,_,c,_⟩:=lE J K _ _ _ h hl;exact⟨by simp only[den,a],c,rfl⟩
   ·simp at h
 | .ic t x,y,m,h,hl=>by
   cases y<;>simp only[uM,reduceCtorEq]at h
   split at h
   ·rename_i he;have he:=VI.1 he;subst he;obtain⟨a,c,_⟩:=pJ J K _ _ _ h hl;exact⟨by simp only[den,a],c,rfl⟩
   ·simp at h
 | .ag l,y,m,h,hl=>by
   cases y<;>simp only[uM,reduceCtorEq]at h
   obtain⟨_,b,c,d⟩:=lE J K _ _ _ h hl;exact⟨by simp only[den,b],fun hh=>⟨c hh.1,d hh.2⟩,rfl⟩
 | .tp l,y,m,h,hl=>by
   cases y<;>simp only[uM,reduceCtorEq]at h
   obtain⟨a,_,c,_⟩:=lE J K _ _ _ h hl;exact⟨by simp only[den,a],c,rfl⟩
 | .lp i o,y,m,h,hl=>by
   cases y<;>simp only[uM,reduceCtorEq]at h
   obtain⟨hb,rfl⟩:=eW h;simp only[VG,VI]at hb;obtain⟨rfl,rfl⟩:=hb;exact rn.refl _ _ _
 | .ax _ _ _ _ _ _ _ _,y,m,h,hl=>by cases y<;>simp[uM]at h
 | .bs _ _ _,y,m,h,hl=>by cases y<;>simp[uM]at h
 | .ks _ _ _ _ _,y,m,h,hl=>by cases y<;>simp[uM]at h
 | .sa i,y,m,h,hl=>by
   cases y<;>simp only[uM,reduceCtorEq]at h
   obtain⟨hb,rfl⟩:=eW h;have hb:=VI.1 hb;subst hb;exact rn.refl _ _ _
 | .yl i,y,m,h,hl=>by
   cases y<;>simp only[uM,reduceCtorEq]at h
   obtain⟨hb,rfl⟩:=eW h;have hb:=VI.1 hb;subst hb;exact rn.refl _ _ _
 | .lx a b c d i e,y,m,h,hl=>by
   cases y<;>simp only[uM,reduceCtorEq]at h
   obtain⟨hb,rfl⟩:=eW h;simp only[VG,VI]at hb;obtain⟨⟨⟨rfl,rfl⟩,rfl⟩,rfl⟩:=hb;simp only[ib]at hl;obtain⟨rfl,rfl⟩:=hl;exact rn.refl _ _ _
 | .sc i n c,y,m,h,hl=>by
   cases y<;>simp only[uM,reduceCtorEq]at h
   obtain⟨hb,rfl⟩:=eW h;have hb:=VI.1 hb;subst hb;simp only[ib]at hl;obtain⟨rfl,rfl⟩:=hl;exact rn.refl _ _ _
 | .op i n,y,m,h,hl=>by
   cases y<;>simp only[uM,reduceCtorEq]at h
   obtain⟨hb,rfl⟩:=eW h;have hb:=VI.1 hb;subst hb;simp only[ib]at hl;subst hl;exact rn.refl _ _ _
 | .so i n,y,m,h,hl=>by
   cases y<;>simp only[uM,reduceCtorEq]at h
   obtain⟨hb,rfl⟩:=eW h;have hb:=VI.1 hb;subst hb;simp only[ib]at hl;subst hl;exact rn.refl _ _ _
 | .ap i e j o,y,m,h,hl=>by
   cases y<;>simp only[uM,reduceCtorEq]at h
   obtain⟨hb,rfl⟩:=eW h;simp only[VG,VI]at hb;obtain⟨⟨rfl,rfl⟩,rfl⟩:=hb;simp only[ib]at hl;subst hl;exact rn.refl _ _ _
 | .ci k a,y,m,h,hl=>by
   cases y<;>simp only[uM,reduceCtorEq]at h<;>obtain⟨hb,rfl⟩:=eW h
   ·simp only[VG,VI,VH]at hb;obtain⟨rfl,rfl⟩:=hb;exact⟨rfl,id,rfl⟩
   ·have hb:=VI.1 hb;subst hb;simp only[ib]at hl;subst hl;exact⟨rfl,id,rfl⟩
 | .it k a,y,m,h,hl=>by
   cases y<;>simp only[uM,reduceCtorEq]at h<;>obtain⟨hb,rfl⟩:=eW h<;>have hb:=VI.1 hb<;>subst hb<;>simp only[ib]at hl<;>subst hl<;>exact⟨rfl,id,rfl⟩
 | .cb a,y,m,h,hl| .bo a,y,m,h,hl| .bt a,y,m,h,hl| .st a,y,m,h,hl| .nl a,y,m,h,hl| .key a,y,m,h,hl| .sl a,y,m,h,hl| .by a,y,m,h,hl| .ob a,y,m,h,hl=>by
   cases y<;>simp only[uM,reduceCtorEq,VE]at h<;>subst h<;>simp only[ib]at hl<;>subst hl<;>exact⟨rfl,id,rfl⟩
theorem lE (J:Env) (K:Nat->Prop):∀(x y:List V) (l:List Prop),qz x y=some l->ib l->Tu J K x y
 | [],[],_,_,_=>⟨rfl,rfl,id,id⟩
 | [],_::_,_,h,_=>by simp[qz]at h
 |_::_,[],_,h,_=>by simp[qz]at h
 |x::l,y::m,p,h,hp=>by
  simp only[qz]at h;obtain⟨a,b,h1,h2,h3,h4⟩:=ju h hp;obtain⟨e1,e2,e3⟩:=pJ J K x y a h1 h3;obtain⟨f1,f2,f3,f4⟩:=lE J K l m b h2 h4;refine⟨by simp only[bf,e1,f1],by simp only[aW,e1,f2],fun hh=>⟨e2 hh.1,f3 hh.2⟩,fun hh=>?_⟩
  rw[cN]at hh⊢;intro z hz;rcases List.mem_cons.1 hz with rfl|hz
  ·rw[<-e3];exact hh x (by simp)
  ·exact(cN _).1 (f4 ((cN _).2 fun q hq=>hh q (by simp[hq]))) z hz
end
def js (res:List aB) (i:Nat):Bool:=
 match an res i with
 | .yet=>false
 |_=>true
theorem cx {res:List aB} {i:Nat}:js res i=true↔known res i:=by
 unfold js known;cases an res i<;>simp
mutual
def within (res:List aB):V->Bool
 | .lp i _=>js res i
 | .lx i _ _ _ _ _=>js res i
 | .sc i _ _=>js res i
 | .so i _=>js res i
 | .ap i _ _ _=>js res i
 | .ax i _ _ _ _ _ _ _=>js res i
 | .sa i=>js res i
 | .op i _=>js res i
 | .yl i=>js res i
 | .mp i=>js res i
 | .ch _ _ l y=>k8 res l&&within res y
 | .bs x _ _=>within res x
 | .ks x _ _ _ _=>within res x
 | .fn _ l=>k8 res l
 | .ic _ x=>within res x
 | .ag l=>k8 res l
 | .tp l=>k8 res l
 |_=>true
def k8 (res:List aB):List V->Bool
 | []=>true
 |x::l=>within res x&&k8 res l
end
mutual
theorem iE {res:List aB} {K:Nat->Prop}:∀v,within res v=true->ok K v->ok (known res) v
 | .lp i _,h,_| .sc i _ _,h,_| .so i _,h,_| .ap i _ _ _,h,_| .sa i,h,_| .op i _,h,_| .yl i,h,_| .mp i,h,_=>cx.1 (by simpa[within]using h)
 | .bs x _ _,h,hk=>⟨iE x (by simpa only[within]using h) hk.1,hk.2⟩
 | .ks x _ _ _ _,h,hk=>⟨iE x (by simpa only[within]using h) hk.1,hk.2⟩
 | .ch _ _ l y,h,hk=>by
   simp only[within,VG]at h;exact⟨gG l h.1 hk.1,iE y h.2 hk.2.1,hk.2.2⟩
 | .lx i _ _ _ _ _,h,hk=>⟨cx.1 (by simpa[within]using h),hk.2⟩
 | .ax i _ _ _ _ _ _ _,h,hk=>⟨cx.1 (by simpa[within]using h),hk.2⟩
 | .fn _ l,h,hk=>gG l (by simpa[within]using h) hk
 | .tp l,h,hk=>gG l (by simpa[within]using h) hk
 | .ag l,h,hk=>⟨gG l (by simpa[within]using h) hk.1,hk.2⟩
 | .ic _ x,h,hk=>iE x (by simpa[within]using h) hk
 | .cb _,_,h| .bo _,_,h| .ci _ _,_,h| .it _ _,_,h| .bt _,_,h| .st _,_,h| .nl _,_,h| .key _,_,h| .sl _,_,h| .by _,_,h| .ob _,_,h=>h
theorem gG {res:List aB} {K:Nat->Prop}:∀l,k8 res l=true->eK K l->eK (known res) l
 | [],_,_=>trivial
 |x::l,h,hk=>by
  simp only[k8,VG]at h;exact⟨iE x h.1 hk.1,gG l h.2 hk.2⟩
end
def kE (res:List aB):List S->List S->Option (List Prop)
 | [],[]=>some []
 |x::l,y::m=>match y with
  | .und=>kE res l m
  | .v b=>match x with
    | .v a=>if within res b then oG (uM a b) (kE res l m)else none
    |_=>none
  |_=>none
 |_,_=>none
def Pf:TL->TL->Option (List Prop)
 | .fn n g,.fn n' g'=>some [n=n',g=g']
 | .ob a,.ob b=>some [a=b]
 | .key a,.key b=>some [a=b]
 | .it k a,.it k' b=>mh (k==k') [a=b]
 | .bo a,.bo b=>some [a=b]
 | .st a,.st b=>some [a=b]
 |_,_=>none
theorem F8 {a b:TL} {p:List Prop} (h:Pf a b=some p) (hp:ib p):a=b:=by
 cases a<;>cases b<;>simp only[Pf,VE,reduceCtorEq]at h
 ·subst h;simp only[ib]at hp;obtain⟨rfl,rfl⟩:=hp;rfl
 ·subst h;simp only[ib]at hp;subst hp;rfl
 ·subst h;simp only[ib]at hp;subst hp;rfl
 ·obtain⟨hb,rfl⟩:=eW h;have hb:=VI.1 hb;simp only[ib]at hp;subst hp;subst hb;rfl
 ·subst h;simp only[ib]at hp;subst hp;rfl
 ·subst h;simp only[ib]at hp;subst hp;rfl
def EY (o' o:Option Nat):Bool:=match o with
 |none=>true
 |some e=>match o' with
  |some e'=>e==e'
  |none=>false
def zj:LoopState->LoopState->Bool
 | .ready,.ready=>true
 | .busy,.busy=>true
 | .done,.done=>true
 | .exhausted,.exhausted=>true
 |_,_=>false
theorem xQ {a b:LoopState} (h:zj a b=true):a=b:=by cases a<;>cases b<;>first|rfl|simp[zj]at h
def sJ (all:List aB):aB->aB->Option (List Prop)
 |x,.yet=>some []
 |x,.gone=>match x with
  | .yet=>none
  |_=>some []
 |x,.blk t c=>match x with
  | .blk t' c'=>if t==t'&&within all c then uM c' c else none
  |_=>none
 |x,.arr o e g=>match x with
  | .arr o' e' g'=>if e==e'&&EY o' o then Pf g' g else none
  |_=>none
 |x,.obs t q L=>match x with
  | .obs t' q' L'=>if t==t'&&q==q'&&js all q then some [L'=L]else none
  |_=>none
 |x,.gen j=>match x with
  | .gen j'=>if j==j' then some []else none
  |_=>none
 |x,.store t e L=>match x with
  | .store t' e' L'=>if t==t'&&e==e' then some [L'=L]else none
  |_=>none
 |x,.lop r s j=>match x with
  | .lop r' s' j'=>match j with
    |none=>match j' with
     |none=>if zj s' s then some [r'=r]else none
     |some _=>none
    |some _=>none
  |_=>none
 |x,.dfr=>match x with
  | .dfr=>some []
  |_=>none
 |_,.mp _ _ _=>none
 |_,.mq _ _=>none
 |x,.ro y=>match x with
  | .ro x=>match y with
    | .yet=>none
    |_=>sJ all x y
  |_=>none
def pR (all:List aB):List aB->List aB->Option (List Prop)
 |_,[]=>some []
 |x::l,y::m=>match y with
  | .yet=>pR all l m
  |_=>oG (sJ all x y) (pR all l m)
 | [],y::m=>match y with
   | .yet=>pR all [] m
   |_=>none
def qd (res:List aB):List (Nat×List V×List V)->List (Nat×List V×List V)->Option (List Prop)
 | [],[]=>some []
 | (f,a,b)::l,(g,c,d)::m=>if f==g&&k8 res c&&k8 res d then oG (oG (qz a c) (qz b d)) (qd res l m)else none
 |_,_=>none
def Uk (U τ:St):Option (List Prop):=
 oG (kE τ.res U.slots τ.slots) (oG (pR τ.res U.res τ.res) (qd τ.res U.defs τ.defs))
def Sub (U τ:St):Prop:=
 match Uk U τ with
 |some l=>ib l
 |none=>False
section
variable {J:Env} {fps:Nat->Nat->Prop} {w0 w:World} {F0:Nat->Prop} {a:Act}
def yi (J:Env) (K:Nat->Prop) (x:Value):S->Prop
 | .und=>True
 | .v b=>x=den J b/\ok K b
 |_=>False
theorem yi.ok {K:Nat->Prop} {sl:List S} {x:Value} {s:S} (h:yi J K x s):fF J K sl x s:=by
 cases s with
 |und=>trivial
 |v b=>exact h
 |ud=>exact h.elim
 |gv ch b=>exact h.elim
theorem qF {K:Nat->Prop} {res:List aB} {sl0:List S}:∀(l m:List S) (p:List Prop),kE res l m=some p->ib p->l.length=m.length/\
  ∀t x,fF J K sl0 x (bD l t)->yi J (known res) x (bD m t)
 | [],[],_,_,_=>⟨rfl,fun t x _=>by simp[bD,yi]⟩
 | [],_::_,_,h,_=>by simp[kE]at h
 |_::_,[],_,h,_=>by simp[kE]at h
 |x::l,y::m,p,h,hp=>by
  have key:∀(q:List Prop),kE res l m=some q->ib q->(∀z,fF J K sl0 z x->yi J (known res) z y)->
    (x::l).length=(y::m).length/\∀t z,fF J K sl0 z (bD (x::l) t)->yi J (known res) z (bD (y::m) t):=by
   intro q hq hq' hz;obtain⟨e1,e2⟩:=qF l m q hq hq';refine⟨by simp[e1],fun t z hh=>?_⟩
   cases t with
   |zero=>exact hz z hh
   |succ t=>exact e2 t z hh
  simp only[kE]at h;split at h
  ·exact key p h hp fun _ _=>trivial
  ·rename_i b;split at h
   ·rename_i a';split at h
    ·rename_i hw;obtain⟨u,v,h1,h2,h3,h4⟩:=ju h hp;refine key v h2 h4 fun z hz=>?_
     obtain⟨e1,e2,_⟩:=pJ J K a' b u h1 h3;exact⟨hz.1.trans e1,iE b hw (e2 hz.2)⟩
    ·simp at h
   ·simp at h
  ·simp at h
theorem yK {K:Nat->Prop} {all:List aB}:∀(x y:aB) (p:List Prop),sJ all x y=some p->ib p->y≠ .yet->x≠ .yet/\∀j fp w0 F0 w,x.holds K J j fp w0 F0 w->y.holds (known all) J j fp w0 F0 w
 |x,.yet,p,h,hp,hy=>absurd rfl hy
 |x,.gone,p,h,hp,hy=>by
  unfold sJ at h;split at h
  ·simp at h
  ·rename_i hx;exact⟨hx,fun _ _ _ _ _ _=>trivial⟩
 |x,.blk t c,p,h,hp,hy=>by
  unfold sJ at h;split at h
  ·rename_i t' c';split at h
   ·rename_i hc;simp only[VG,VI]at hc;obtain⟨rfl,hw⟩:=hc;refine⟨by simp,fun j fp w0 F0 w hh=>?_⟩
    obtain⟨e1,e2,e3⟩:=pJ J K c' c p h hp;obtain⟨g1,g2,g3,g4⟩:=hh;exact⟨iE c hw (e2 g1),by rw[<-e3];exact g2,g3,by rw[g4];simp only[cells,e1]⟩
   ·simp at h
  ·simp at h
 |x,.arr o e g,p,h,hp,hy=>by
  unfold sJ at h;split at h
  ·rename_i o' e' g';split at h
   ·rename_i hc;simp only[VG,VI]at hc;obtain⟨rfl,hc2⟩:=hc;have:=F8 h hp;subst this;refine⟨by simp,fun j fp w0 F0 w hh=>?_⟩
    obtain⟨a1,a2,a3,a4,a5,a6,a7⟩:=hh;refine⟨a1,a2,a3,a4,a5,a6,?_⟩;rcases a7 with⟨b1,b2⟩|⟨x,b1,b2⟩
    ·refine .inl ⟨?_,b2⟩;subst b1;cases o with
     |none=>rfl
     |some z=>simp[EY]at hc2
    ·refine .inr ⟨x,fun z hz=>?_,b2⟩
     subst hz;cases o' with
     |none=>simp[EY]at hc2
     |some y=>
      have:=b1 y rfl;simp only[EY,VI]at hc2;omega
   ·simp at h
  ·simp at h
 |x,.obs t q L,p,h,hp,hy=>by
  unfold sJ at h;split at h
  ·split at h
   ·rename_i hc;simp only[VG,VI]at hc;obtain⟨⟨rfl,rfl⟩,hkq⟩:=hc;simp only[VE]at h;subst h;simp only[ib]at hp;subst hp;exact⟨by simp,fun j fp w0 F0 w hh=>⟨cx.1 hkq,hh.2⟩⟩
   ·simp at h
  ·simp at h
 |x,.gen j,p,h,hp,hy=>by
  unfold sJ at h;split at h
  ·exact⟨by simp,fun _ _ _ _ _ _=>trivial⟩
  ·simp at h
 |x,.store t e L,p,h,hp,hy=>by
  unfold sJ at h;split at h
  ·split at h
   ·rename_i hc;simp only[VG,VI]at hc;obtain⟨rfl,rfl⟩:=hc;simp only[VE]at h;subst h;simp only[ib]at hp;subst hp;exact⟨by simp,fun j fp w0 F0 w hh=>hh⟩
   ·simp at h
  ·simp at h
 |x,.lop r s j,p,h,hp,hy=>by
  unfold sJ at h;split at h
  ·split at h
   ·split at h
    ·split at h
     ·rename_i hs;have:=xQ hs;subst this;simp only[VE]at h;subst h;simp only[ib]at hp;subst hp;exact⟨by simp,fun j fp w0 F0 w hh=>hh⟩
     ·simp at h
    ·simp at h
   ·simp at h
  ·simp at h
 |x,.dfr,p,h,hp,hy=>by
  unfold sJ at h;split at h
  ·exact⟨by simp,fun j fp w0 F0 w hh=>hh⟩
  ·simp at h
 |x,.mp _ _ _,p,h,hp,hy=>by simp[sJ]at h
 |x,.mq _ _,p,h,hp,hy=>by simp[sJ]at h
 |x,.ro y,p,h,hp,hy=>by
  unfold sJ at h;split at h
  ·rename_i x';split at h
   ·simp at h
   ·rename_i hyy;obtain⟨e1,e2⟩:=yK x' y p h hp hyy;refine⟨by simp,fun j fp w0 F0 w hh=>?_⟩
    obtain⟨fp',g1,g2⟩:=hh;exact⟨fp',e2 j fp' w0 F0 w0 g1,g2⟩
  ·simp at h
theorem pS {K:Nat->Prop} {all:List aB}:∀(l m:List aB) (p:List Prop),pR all l m=some p->ib p->∀i,known m i->known l i/\
  ∀j fp w0 F0 w,(an l i).holds K J j fp w0 F0 w->(an m i).holds (known all) J j fp w0 F0 w
 |_,[],_,_,_,i,hi=>by simp[known,an]at hi
 | [],y::m,p,h,hp,i,hi=>by
   simp only[pR]at h;split at h
   ·cases i with
    |zero=>simp[known,an]at hi
    |succ i=>
     obtain⟨h1,h2⟩:=pS (K:=K) [] m p h hp i hi;simp[known,an]at h1
   ·simp at h
 |x::l,y::m,p,h,hp,i,hi=>by
  have key:∀(q:List Prop),pR all l m=some q->ib q->(y≠ .yet->x≠ .yet/\∀j fp w0 F0 w,x.holds K J j fp w0 F0 w->y.holds (known all) J j fp w0 F0 w)->
    known (x::l) i/\∀j fp w0 F0 w,(an (x::l) i).holds K J j fp w0 F0 w->(an (y::m) i).holds (known all) J j fp w0 F0 w:=by
   intro q hq hq' hz;cases i with
   |zero=>exact hz hi
   |succ i=>exact pS l m q hq hq' i hi
  simp only[pR]at h;split at h
  ·exact key p h hp fun hh=>absurd rfl hh
  ·rename_i hy;obtain⟨u,v,h1,h2,h3,h4⟩:=ju h hp;exact key v h2 h4 fun hy'=>yK x y u h1 h3 hy'
theorem Ll {a c:List V} {l:List Prop} (h:qz a c=some l):yN a=yN c:=by
 match a,c with
 | [],[]=>rfl
 | [],_::_=>simp[qz]at h
 |_::_,[]=>simp[qz]at h
 | [x],[y]=>
   simp only[qz]at h;unfold oG at h;split at h<;>simp only[VE,reduceCtorEq]at h
   rename_i hx _;unfold yN
   cases x<;>cases y<;>simp only[uM,reduceCtorEq]at hx<;>first
    |rfl
    | (have hb:=VI.1 (eW hx).1;subst hb;rfl)
 | [x],y::z::m=>
   simp only[qz,oG]at h;split at h<;>simp_all
 |x::z::m,[y]=>
  simp only[qz,oG]at h;split at h<;>simp_all
 |_::_::_,_::_::_=>rfl
theorem sN {K:Nat->Prop} {res:List aB}:∀(l m:List (Nat×List V×List V)) (p:List Prop),qd res l m=some p->ib p->(∀d∈l,eK K d.2.1/\eK K d.2.2)->
  l.flatMap (j6 J)=m.flatMap (j6 J)/\∀d∈m,eK (known res) d.2.1/\eK (known res) d.2.2
 | [],[],_,_,_,_=>⟨rfl,by simp⟩
 | [],_::_,_,h,_,_=>by simp[qd]at h
 |_::_,[],_,h,_,_=>by simp[qd]at h
 | (f,a,b)::l,(g,c,d)::m,p,h,hp,hk=>by
   simp only[qd]at h;split at h
   ·rename_i hc;simp only[VG,VI]at hc;obtain⟨⟨rfl,w1⟩,w2⟩:=hc;obtain⟨u,v,h1,h2,h3,h4⟩:=ju h hp;obtain⟨u1,u2,i1,i2,i3,i4⟩:=ju h1 h3;obtain⟨e1,_,e2,_⟩:=lE J K a c u1 i1 i3;obtain⟨f1,_,f2,_⟩:=lE J K b d u2 i2 i4;obtain⟨g1,g2⟩:=sN l m v h2 h4 fun d hd=>hk d (by simp[hd])
    have hk0:=hk (f,a,b) (by simp)
    have hde:j6 J (f,a,b)=j6 J (f,c,d):=by
     have hm:=Ll i1;unfold j6;simp only[<-hm];cases yN a<;>simp[e1,f1]
    refine⟨by rw[List.flatMap_cons,List.flatMap_cons,hde,g1],fun d' hd'=>?_⟩
    rcases List.mem_cons.1 hd' with rfl|hd'
    ·exact⟨gG _ w1 (e2 hk0.1),gG _ w2 (f2 hk0.2)⟩
    ·exact g2 d' hd'
   ·simp at h
theorem Sub.rep {U τ:St} (h:Sub U τ) (hr:jM J fps U w0 F0 a w):jM J fps τ w0 F0 a w/\∀i,known τ.res i->known U.res i:=by
 unfold Sub at h;split at h
 ·rename_i l hl;obtain⟨u,v,h1,h2,h3,h4⟩:=ju hl h;obtain⟨v1,v2,i1,i2,i3,i4⟩:=ju h2 h4;obtain⟨r1,r2,r3,r4⟩:=hr;obtain⟨s1,s2⟩:=qF (J:=J) (K:=known U.res) (sl0:=U.slots) _ _ u h1 h3;have hres:=fun i hi=>pS (J:=J) (K:=known U.res) _ _ v1 i1 i3 i hi
  obtain⟨d1,d2⟩:=sN (J:=J) (K:=known U.res) _ _ v2 i2 i4 r4;refine⟨⟨⟨by rw[<-s1];exact r1.1,fun t=>(s2 t _ (r1.2 t)).ok⟩,?_,by rw[r3,d1],d2⟩,fun i hi=>(hres i hi).1⟩
  have hk:∀i,known τ.res i->known U.res i:=fun i hi=>(hres i hi).1
  exact⟨fun i hi=>hi,r2.old,r2.os,r2.tape,r2.output,fun i hi=>(hres i hi).2 _ _ _ _ _ (r2.holds i (hk i hi)),fun i b hi=>r2.lt i b (hk i hi),
   fun i j b hi hj=>r2.disj i j b (hk i hi) (hk j hj),fun i b hi=>r2.inF i b (hk i hi),r2.same⟩
 ·exact h.elim
end
end Go.Sx
namespace Go.Sx
open Go.RowKit (Below)
def Jz:List V->Option (List Obj)
 | []=>some []
 |v::l=>match v with
  | .ob o=>match Jz l with
    |some m=>some (o::m)
    |none=>none
  |_=>none
theorem xG:∀{l:List V} {L:List Obj},Jz l=some L->l=L.map V.ob
 | [],L,h=>by simp only[Jz,VE]at h;subst h;rfl
 |v::l,L,h=>by
  simp only[Jz]at h;split at h
  ·split at h<;>simp only[VE,reduceCtorEq]at h
   rename_i o m hm;subst h;rw[xG hm];rfl
  ·simp at h
theorem wy (J:Env) (L:List Obj):aW J (L.map V.ob)=(TL.ob L).cells:=by
 unfold TL.cells;rw[tG]
 have h:∀M:List Obj,(M.map V.ob).flatMap (cells J)=(List.range M.length).flatMap fun j=>cells Env.zero (.ob (ak M j free)):=by
  intro M;induction M with
  |nil=>rfl
  |cons o M ih=>
   rw[List.map_cons,List.flatMap_cons,ih,List.length_cons,List.range_succ_eq_map,List.flatMap_cons,List.flatMap_map];congr 1
 exact h L
def MG (x:V):Option (List Obj):=
 match x with
 | .ag l=>Jz l
 | .ob o=>some [o]
 |_=>none
theorem Gc {x:V} {L:List Obj} {N:Nat->Prop} (h:MG x=some L) (hx:ok N x):(∀J,cells J x=(TL.ob L).cells)/\∀j,j<L.length->(ak L j free).wf:=by
 unfold MG at h;split at h
 ·have:=xG h;subst this;refine⟨fun J=>by rw[eM,wy],fun j hj=>?_⟩
  have:=(gf _).1 hx.1 (.ob (L[j])) (by simp)
  have this:(L[j]).wf:=this;simpa[ak,VL,hj]using this
 ·rename_i o;simp only[VE]at h;subst h;refine⟨fun J=>?_,fun j hj=>?_⟩
  ·have:=wy J [o];rw[<-this];simp[aW,cells]
  ·have:j=0:=by simp at hj;omega
   subst this;exact hx
 ·simp at h
end Go.Sx
namespace Go.Sx
open Go.RowKit (Below)
mutual
def e9 (κ:Nat->Option Nat):V->Option V
 | .lp i off=>match κ i with
   |some j=>some (.lp j off)
   |none=>none
 | .lx i off esz n k inner=>match κ i with
   |some j=>some (.lx j off esz n k inner)
   |none=>none
 | .sc i len cap=>match κ i with
   |some j=>some (.sc j len cap)
   |none=>none
 | .so i len=>match κ i with
   |some j=>some (.so j len)
   |none=>none
 | .ap i esz k off=>match κ i with
   |some j=>some (.ap j esz k off)
   |none=>none
 | .sa i=>match κ i with
   |some j=>some (.sa j)
   |none=>none
 | .op i k=>match κ i with
   |some j=>some (.op j k)
   |none=>none
 | .yl i=>match κ i with
   |some j=>some (.yl j)
   |none=>none
 | .mp i=>match κ i with
   |some j=>some (.mp j)
   |none=>none
 | .ch _ _ _ _=>none
 | .ax _ _ _ _ _ _ _ _=>none
 | .bs _ _ _=>none
 | .ks _ _ _ _ _=>none
 | .fn f l=>match dU κ l with
   |some m=>some (.fn f m)
   |none=>none
 | .ic t x=>match e9 κ x with
   |some y=>some (.ic t y)
   |none=>none
 | .ag l=>match dU κ l with
   |some m=>some (.ag m)
   |none=>none
 | .tp l=>match dU κ l with
   |some m=>some (.tp m)
   |none=>none
 | .cb b=>some (.cb b)
 | .bo b=>some (.bo b)
 | .ci k n=>some (.ci k n)
 | .it k n=>some (.it k n)
 | .bt b=>some (.bt b)
 | .st s=>some (.st s)
 | .nl v=>some (.nl v)
 | .key k=>some (.key k)
 | .sl s=>some (.sl s)
 | .by b=>some (.by b)
 | .ob o=>some (.ob o)
def dU (κ:Nat->Option Nat):List V->Option (List V)
 | []=>some []
 |x::l=>match e9 κ x with
  |some y=>match dU κ l with
   |some m=>some (y::m)
   |none=>none
  |none=>none
end
def Env.via (κ:Nat->Option Nat) (J ρ':Env):Prop:=∀p i,κ p=some i->ρ'.num i=J.num p/\ρ'.cap i=J.cap p/\ρ'.adr i=J.adr p/\ρ'.sa i=J.sa p/\ρ'.sn i=J.sn p/\ρ'.ob i=J.ob p
section
variable {κ:Nat->Option Nat} {J ρ':Env} {N N':Nat->Prop}
mutual
theorem jD (hv:Env.via κ J ρ') (hN:∀p i,κ p=some i->N p->N' i):∀v v',e9 κ v=some v'->den ρ' v'=den J v/\(ok N v->ok N' v')/\bR v'=bR v
 | .lp i off,v',h=>by
   simp only[e9]at h;split at h<;>simp only[VE,reduceCtorEq]at h
   rename_i j hj;subst h;exact⟨by simp only[den,(hv i j hj).1],fun hk=>hN i j hj hk,rfl⟩
 | .lx i off esz n k inner,v',h=>by
   simp only[e9]at h;split at h<;>simp only[VE,reduceCtorEq]at h
   rename_i j hj;subst h;exact⟨by simp only[den,(hv i j hj).1],fun hk=>⟨hN i j hj hk.1,hk.2⟩,rfl⟩
 | .sc i len cap,v',h=>by
   simp only[e9]at h;split at h<;>simp only[VE,reduceCtorEq]at h
   rename_i j hj;subst h;exact⟨by simp only[den,(hv i j hj).1],fun hk=>hN i j hj hk,rfl⟩
 | .so i len,v',h=>by
   simp only[e9]at h;split at h<;>simp only[VE,reduceCtorEq]at h
   rename_i j hj;subst h;exact⟨by simp only[den,(hv i j hj).1,(hv i j hj).2.1],fun hk=>hN i j hj hk,rfl⟩
 | .ap i esz k off,v',h=>by
   simp only[e9]at h;split at h<;>simp only[VE,reduceCtorEq]at h
   rename_i j hj;subst h;exact⟨by simp only[den,(hv i j hj).2.2.1],fun hk=>hN i j hj hk,rfl⟩
 | .sa i,v',h=>by
   simp only[e9]at h;split at h<;>simp only[VE,reduceCtorEq]at h
   rename_i j hj;subst h;exact⟨by simp only[den,(hv i j hj).2.1,(hv i j hj).2.2.2.1,(hv i j hj).2.2.2.2.1],fun hk=>hN i j hj hk,rfl⟩
 | .yl i,v',h=>by
   simp only[e9]at h;split at h<;>simp only[VE,reduceCtorEq]at h
   rename_i j hj;subst h;exact⟨by simp only[den,(hv i j hj).1],fun hk=>hN i j hj hk,rfl⟩
 | .mp i,v',h=>by
   simp only[e9]at h;split at h<;>simp only[VE,reduceCtorEq]at h
   rename_i j hj;subst h;exact⟨by simp only[den,(hv i j hj).1],fun hk=>hN i j hj hk,rfl⟩
 | .ch b f l y,v',h=>by simp[e9]at h
 | .ax _ _ _ _ _ _ _ _,v',h=>by simp[e9]at h
 | .bs _ _ _,v',h=>by simp[e9]at h
 | .ks _ _ _ _ _,v',h=>by simp[e9]at h
 | .op i k,v',h=>by
   simp only[e9]at h;split at h<;>simp only[VE,reduceCtorEq]at h
   rename_i j hj;subst h;exact⟨by simp only[den,(hv i j hj).2.2.2.2.2],fun hk=>hN i j hj hk,rfl⟩
 | .fn f l,v',h=>by
   simp only[e9]at h;split at h<;>simp only[VE,reduceCtorEq]at h
   rename_i m hm;subst h;obtain⟨a,_,c,_⟩:=gL hv hN l m hm;exact⟨by simp only[den,a],c,rfl⟩
 | .ic t x,v',h=>by
   simp only[e9]at h;split at h<;>simp only[VE,reduceCtorEq]at h
   rename_i m hm;subst h;obtain⟨a,c,_⟩:=jD hv hN x m hm;exact⟨by simp only[den,a],c,rfl⟩
 | .ag l,v',h=>by
   simp only[e9]at h;split at h<;>simp only[VE,reduceCtorEq]at h
   rename_i m hm;subst h;obtain⟨_,b,c,d⟩:=gL hv hN l m hm;exact⟨by simp only[den,b],fun hk=>⟨c hk.1,d hk.2⟩,rfl⟩
 | .tp l,v',h=>by
   simp only[e9]at h;split at h<;>simp only[VE,reduceCtorEq]at h
   rename_i m hm;subst h;obtain⟨a,_,c,_⟩:=gL hv hN l m hm;exact⟨by simp only[den,a],c,rfl⟩
 | .cb b,v',h| .bo b,v',h| .ci _ b,v',h| .it _ b,v',h| .bt b,v',h| .st b,v',h| .nl b,v',h| .key b,v',h| .sl b,v',h| .by b,v',h| .ob b,v',h=>by
   simp only[e9,VE]at h;subst h;exact⟨rfl,id,rfl⟩
theorem gL (hv:Env.via κ J ρ') (hN:∀p i,κ p=some i->N p->N' i):∀l l',dU κ l=some l'->bf ρ' l'=bf J l/\aW ρ' l'=aW J l/\(eK N l->eK N' l')/\(qI l->qI l')
 | [],l',h=>by simp only[dU,VE]at h;subst h;exact⟨rfl,rfl,id,id⟩
 |x::l,l',h=>by
  simp only[dU]at h;split at h
  ·rename_i y hy;split at h<;>simp only[VE,reduceCtorEq]at h
   rename_i m hm;subst h;obtain⟨a1,a2,a3⟩:=jD hv hN x y hy;obtain⟨b1,b2,b3,b4⟩:=gL hv hN l m hm;refine⟨by simp only[bf,a1,b1],by simp only[aW,a1,b2],fun hk=>⟨a2 hk.1,b3 hk.2⟩,fun hk=>?_⟩
   rw[cN]at hk⊢;intro z hz;rcases List.mem_cons.1 hz with rfl|hz
   ·rw[a3];exact hk x (by simp)
   ·exact(cN _).1 (b4 ((cN _).2 fun q hq=>hk q (by simp[hq]))) z hz
  ·simp at h
end
theorem ll {κ:Nat->Option Nat}:∀{l l':List V},dU κ l=some l'->l'.length=l.length
 | [],l',h=>by simp only[dU,VE]at h;subst h;rfl
 |x::l,l',h=>by
  simp only[dU]at h;split at h
  ·split at h<;>simp only[VE,reduceCtorEq]at h
   rename_i m hm;subst h;simp[ll hm]
  ·simp at h
def fZ (κ:Nat->Option Nat):aB->aB
 | .yet=> .yet
 | .gone=> .gone
 | .blk ty c=>match e9 κ c with
   |some c'=> .blk ty c'
   |none=> .gone
 | .arr o e l=> .arr o e l
 | .obs ty q L=>match κ q with
   |some q'=> .obs ty q' L
   |none=> .gone
 | .gen j=>match κ j with
   |some j'=> .gen j'
   |none=> .gone
 | .store ty e L=> .store ty e L
 | .lop r s j=> .lop r s j
 | .dfr=> .dfr
 | .mp k ks vs=>match dU κ vs with
   |some vs'=> .mp k ks vs'
   |none=> .gone
 | .mq ks vs=>match dU κ vs with
   |some vs'=> .mq ks vs'
   |none=> .gone
 | .ro r=> .ro (fZ κ r)
theorem kF {r:aB}:fZ κ r= .yet↔r= .yet:=by
 cases r<;>simp only[fZ]<;>(try split)<;>simp
theorem gU (hv:Env.via κ J ρ') (hN:∀p i,κ p=some i->N p->N' i) {p i:Nat} (hp:κ p=some i) {w0:World} {F0:Nat->Prop}:∀(r:aB) (fp:Nat->Prop) (w:World),r.holds N J p fp w0 F0 w->(fZ κ r).holds N' ρ' i fp w0 F0 w
 | .yet,fp,w,h=>trivial
 | .gone,fp,w,h=>trivial
 | .gen j,fp,w,h=>by simp only[fZ];split<;>trivial
 | .blk ty c,fp,w,h=>by
   simp only[fZ];split
   ·rename_i c' hc;obtain⟨h1,h2,h3,h4⟩:=h;obtain⟨a,b,d⟩:=jD hv hN c c' hc;have e:=(hv p i hp).1;exact⟨b h1,by rw[d];exact h2,by rw[e];exact h3,by rw[e];simp only[cells,a];exact h4⟩
   ·trivial
 | .arr o e l,fp,w,h=>by
   obtain⟨e1,e2,e3,e4,e5,e6⟩:=hv p i hp;obtain⟨h1,h2,h3,h4,h5,h6,h7⟩:=h;have hsl:ρ'.sl i=J.sl p:=by simp only[Env.sl,e2,e4,e5]
   refine⟨h1,by rw[e5];exact h2,h3,by rw[e4,e3];exact h4,by rw[e4];exact h5,by rw[e3];exact h6,?_⟩
   rcases h7 with⟨g1,g2,g3⟩|⟨x,g1,g2,g3⟩
   ·refine .inl ⟨g1,by rw[e3];exact g2,fun j hj k hk=>?_⟩
    rw[e3,g3 j hj k hk,cQ (N:=fun _=>False) (J:=J) (ρ':=ρ') (fun _ h=>h.elim) _ (h1 j hj).1]
   ·exact .inr ⟨x,g1,by rw[hsl];exact g2,by rw[e4];exact g3⟩
 | .obs ty q L,fp,w,h=>by
   simp only[fZ];split
   ·rename_i q' hq;obtain⟨e1,e2,e3,e4,e5,e6⟩:=hv p i hp;obtain⟨h0,h1,h2,h3,h4,h5,h6,h7⟩:=h;have hsl:ρ'.sl i=J.sl p:=by simp only[Env.sl,e2,e4,e5]
    have eq6:=(hv q q' hq).2.2.2.2.2;exact⟨hN q q' hq h0,h1,by rw[e5];exact h2,h3,by rw[e4,e3];exact h4,by rw[e4];exact h5,by rw[hsl,eq6];exact h6,by rw[eq6];exact h7⟩
   ·trivial
 | .store ty e L,fp,w,h=>by
   have e:=(hv p i hp).1;obtain⟨h0,h1,h2,sl,ob,h3,h5,h6,h7⟩:=h;exact⟨by rw[e];exact h0,h1,h2,sl,ob,by rw[e];exact h3,h5,by rw[e];exact h6,by rw[e];exact h7⟩
 | .lop r s j,fp,w,h=>by
   have e:=(hv p i hp).1;exact⟨by rw[e];exact h.1,by rw[e];exact h.2⟩
 | .dfr,fp,w,h=>by
   have e1:=(hv p i hp).2.2.2.2.1;have e2:=(hv p i hp).2.2.2.2.2;exact⟨fun j hj=>by rw[e1]at hj;rw[e2];exact h.1 j hj,by rw[e1,e2];exact h.2⟩
 | .mp k ks vs,fp,w,h=>by
   simp only[fZ];split
   ·rename_i vs' hvs;obtain⟨h0,h1,h2,h3,h4,es,cl,h5,h6,h7⟩:=h;obtain⟨a,_,c,d⟩:=gL hv hN vs vs' hvs;have e:=(hv p i hp).1;exact⟨by rw[e];exact h0,c h1,d h2,h3,by rw[ll hvs];exact h4,es,cl,by rw[e];exact h5,h6,by rw[a];exact h7⟩
   ·trivial
 | .mq ks vs,fp,w,h=>by
   simp only[fZ];split
   ·rename_i vs' hvs;obtain⟨h0,h1,h2,h4,es,cl,h5,h7⟩:=h;obtain⟨a,_,c,d⟩:=gL hv hN vs vs' hvs;have e:=(hv p i hp).1;exact⟨by rw[e];exact h0,c h1,d h2,by rw[ll hvs];exact h4,es,cl,by rw[e];exact h5,by rw[a];exact h7⟩
   ·trivial
 | .ro r,fp,w,h=>by
   obtain⟨fp',h1,h2⟩:=h;exact⟨fp',gU hv hN hp r fp' w0 h1,h2⟩
end
def idxOf:List Nat->Nat->Nat->Option Nat
 | [],_,_=>none
 |x::l,n,p=>if x==p then some n else idxOf l (n+1) p
def ky (n:Nat) (l:List Nat) (p:Nat):Option Nat:=if Nat.blt p n then some p else idxOf l n p
def src (n:Nat) (l:List Nat) (i:Nat):Nat:=if i<n then i else l.getD (i-n) i
theorem gK:∀{l:List Nat} {n p i:Nat},idxOf l n p=some i->n<=i/\i<n+l.length/\l[i-n]? =some p
 | [],n,p,i,h=>by simp[idxOf]at h
 |x::l,n,p,i,h=>by
  simp only[idxOf]at h;split at h
  ·rename_i e;have e:=VI.1 e;simp only[VE]at h;subst h;subst e;simp
  ·obtain⟨h1,h2,h3⟩:=gK h;refine⟨by omega,by simp;omega,?_⟩
   rw[show i-n=(i-(n+1))+1 by omega]
   simpa using h3
theorem EH {n:Nat} {l:List Nat} {p i:Nat} (h:ky n l p=some i):src n l i=p:=by
 unfold ky at h;unfold src;split at h
 ·rename_i hp;simp only[VE]at h;subst h;rw[VN (by simpa using hp)]
 ·obtain⟨h1,h2,h3⟩:=gK h;rw[VM (by omega),VL,h3];rfl
def Env.pull (π:Nat->Nat) (J:Env):Env:= {num:=fun i=>J.num (π i),cap:=fun i=>J.cap (π i),adr:=fun i=>J.adr (π i),sa:=fun i=>J.sa (π i),sn:=fun i=>J.sn (π i),ob:=fun i=>J.ob (π i)}
theorem sd {π:Nat->Nat} {κ:Nat->Option Nat} {J:Env} (h:∀p i,κ p=some i->π i=p):Env.via κ J (J.pull π):=fun p i hp=>by
 have:=h p i hp;simp[Env.pull,this]
def mT (κ:Nat->Option Nat) (all:List aB):Nat->List aB->List aB
 |0,_=> []
 |_+1,[]=> []
 |n+1,r::l=>fZ κ r::mT κ all n l
def gq (κ:Nat->Option Nat) (all:List aB):List Nat->List aB
 | []=> []
 |p::l=>fZ κ (an all p)::gq κ all l
def n7 (κ:Nat->Option Nat):List S->List S
 | []=> []
 |s::l=>(match s with
  | .v x=>match e9 κ x with
    |some y=> .v y
    |none=> .und
  |_=> .und)::n7 κ l
def w7 (κ:Nat->Option Nat):List (Nat×List V×List V)->Option (List (Nat×List V×List V))
 | []=>some []
 | (f,a,b)::l=>match dU κ a,dU κ b,w7 κ l with
   |some a',some b',some m=>some ((f,a',b')::m)
   |_,_,_=>none
def pw:List Nat->Nat->Bool
 | [],_=>false
 |x::l,p=>x==p||pw l p
def iT (n m:Nat):List Nat->Bool
 | []=>true
 |p::l=>Nat.ble n p&&Nat.blt p m&& !pw l p&&iT n m l
def PW (n:Nat) (ext:List Nat) (U:St):Option St:=
 if Nat.ble n U.res.length&&iT n U.res.length ext then
  match w7 (ky n ext) U.defs with
  |some ds=>some {slots:=n7 (ky n ext) U.slots,res:=mT (ky n ext) U.res n U.res++gq (ky n ext) U.res ext,defs:=ds}
  |none=>none
 else none
theorem uC (κ:Nat->Option Nat) (all:List aB):∀(n:Nat) (l:List aB) (i:Nat),n<=l.length->i<n->an (mT κ all n l) i=fZ κ (an l i)
 |0,_,i,_,h=>by omega
 |n+1,[],i,h,_=>by simp at h
 |n+1,r::l,0,h,_=>rfl
 |n+1,r::l,i+1,h,hi=>by
  simp only[mT,an];exact uC κ all n l i (by simpa using h) (by omega)
theorem qE (κ:Nat->Option Nat) (all:List aB):∀(n:Nat) (l:List aB),n<=l.length->(mT κ all n l).length=n
 |0,_,_=>rfl
 |n+1,[],h=>by simp at h
 |n+1,r::l,h=>by simp[mT,qE κ all n l (by simpa using h)]
theorem oY (κ:Nat->Option Nat) (all:List aB):∀(l:List Nat) (k:Nat),an (gq κ all l) k=match l[k]? with|some p=>fZ κ (an all p)|none=> .yet
 | [],k=>by simp[gq,an]
 |p::l,0=>by simp[gq,an]
 |p::l,k+1=>by simp[gq,an,oY κ all l k]
theorem Ea:∀{l:List Nat} {p:Nat},pw l p=true↔p∈l
 | [],p=>by simp[pw]
 |x::l,p=>by
  simp only[pw,Bool.or_eq_true,VI,Ea (l:=l),List.mem_cons];exact or_congr_left eq_comm
theorem nX {n m:Nat}:∀{l:List Nat},iT n m l=true->(∀p∈l,n<=p/\p<m)/\l.Nodup
 | [],_=>by simp
 |p::l,h=>by
  simp only[iT,VG,Nat.ble_eq,Nat.blt_eq,Bool.not_eq_true']at h;obtain⟨⟨⟨h1,h2⟩,h3⟩,h4⟩:=h;obtain⟨a,b⟩:=nX h4;refine⟨fun q hq=>?_,List.nodup_cons.2 ⟨fun hp=>?_,b⟩⟩
  ·rcases List.mem_cons.1 hq with rfl|hq
   ·exact⟨h1,h2⟩
   ·exact a q hq
  ·rw[<-Ea]at hp;rw[hp]at h3;simp at h3
theorem pd (κ:Nat->Option Nat):∀l:List S,(n7 κ l).length=l.length
 | []=>rfl
 |s::l=>by simp[n7,pd κ l]
theorem sS (κ:Nat->Option Nat):∀(l:List S) (t:Nat),bD (n7 κ l) t=match bD l t with
  | .v x=>(match e9 κ x with|some y=> .v y|none=> .und)
  |_=> .und
 | [],t=>by simp[n7,bD]
 |s::l,0=>by cases s<;>rfl
 |s::l,t+1=>by simp only[n7,bD];exact sS κ l t
theorem FW {κ:Nat->Option Nat} {a a':List V} (h:dU κ a=some a'):(yN a=none/\yN a'=none)\/∃k k',yN a=some k/\κ k=some k'/\yN a'=some k':=by
 match a with
 | []=>simp only[dU,VE]at h;subst h;exact .inl ⟨rfl,rfl⟩
 | [x]=>
   simp only[dU]at h;split at h<;>simp only[VE,reduceCtorEq]at h
   rename_i y hy;subst h
   cases x<;>simp only[e9]at hy<;>(try split at hy)<;>simp only[VE,reduceCtorEq]at hy<;>subst hy<;>first
    |exact .inl ⟨rfl,rfl⟩
    | (rename_i k _ k' hk;exact .inr ⟨k,k',rfl,hk,rfl⟩)
 |x::z::m=>
  have hl:=ll h;match a',hl with
  | [],hl=>simp at hl
  | [_],hl=>simp at hl
  |_::_::_,_=>exact .inl ⟨rfl,rfl⟩
theorem pF {κ:Nat->Option Nat} {J ρ':Env} {N N':Nat->Prop} (hv:Env.via κ J ρ') (hN:∀p i,κ p=some i->N p->N' i):∀(l m:List (Nat×List V×List V)),w7 κ l=some m->
  m.flatMap (j6 ρ')=l.flatMap (j6 J)/\((∀d∈l,eK N d.2.1/\eK N d.2.2)->∀d∈m,eK N' d.2.1/\eK N' d.2.2)
 | [],m,h=>by simp only[w7,VE]at h;subst h;exact⟨rfl,fun _=>by simp⟩
 | (f,a,b)::l,m,h=>by
   simp only[w7]at h;split at h<;>simp only[VE,reduceCtorEq]at h
   rename_i a' b' m' ha hb hm;subst h;obtain⟨a1,_,a3,_⟩:=gL hv hN a a' ha;obtain⟨b1,_,b3,_⟩:=gL hv hN b b' hb;obtain⟨c1,c2⟩:=pF hv hN l m' hm
   have hde:j6 ρ' (f,a',b')=j6 J (f,a,b):=by
    unfold j6;rcases FW ha with⟨h1,h2⟩|⟨k,k',h1,h2,h3⟩
    ·simp only[h1,h2,a1,b1]
    ·simp only[h1,h3,(hv k k' h2).2.2.2.2.1,(hv k k' h2).2.2.2.2.2]
   refine⟨by rw[List.flatMap_cons,List.flatMap_cons,hde,c1],fun hk d hd=>?_⟩
   rcases List.mem_cons.1 hd with rfl|hd
   ·have h0:=hk (f,a,b) (by simp)
    exact⟨a3 h0.1,b3 h0.2⟩
   ·exact c2 (fun d hd=>hk d (by simp[hd])) d hd
theorem HK {J:Env} {fps:Nat->Nat->Prop} {w0 w:World} {F0:Nat->Prop} {a:Act} {n:Nat} {ext:List Nat} {U σ':St} (h:PW n ext U=some σ') (hr:jM J fps U w0 F0 a w):
  ∃ρ' fps',jM ρ' fps' σ' w0 F0 a w/\∀i,i<n->ρ'.num i=J.num i/\ρ'.cap i=J.cap i/\ρ'.adr i=J.adr i/\ρ'.sa i=J.sa i/\ρ'.sn i=J.sn i/\ρ'.ob i=J.ob i:=by
 unfold PW at h;split at h
 ·rename_i hc;simp only[VG,Nat.ble_eq]at hc;obtain⟨hn,he⟩:=hc;obtain⟨e1,e2⟩:=nX he;split at h<;>simp only[VE,reduceCtorEq]at h
  rename_i ds hds;subst h;obtain⟨r1,r2,r3,r4⟩:=hr;generalize hκ:ky n ext=κ at *
  have hπ:∀p i,κ p=some i->src n ext i=p:=fun p i hp=>by subst hκ;exact EH hp
  have hv:Env.via κ J (J.pull (src n ext)):=sd hπ
  have hget:∀i,an (mT κ U.res n U.res++gq κ U.res ext) i=if i<n then fZ κ (an U.res i)else match ext[i-n]? with|some p=>fZ κ (an U.res p)|none=> .yet:=fun i=>by
   rw[bK,qE κ _ n _ hn];by_cases hi:i<n
   ·rw[VN hi,VN hi,uC κ _ n _ i hn hi]
   ·rw[VM hi,VM hi,oY]
  have hkn:∀i,known (mT κ U.res n U.res++gq κ U.res ext) i->known U.res (src n ext i)/\κ (src n ext i)=some i/\an (mT κ U.res n U.res++gq κ U.res ext) i=fZ κ (an U.res (src n ext i)):=fun i hi=>by
   unfold known at hi;rw[hget]at hi⊢;unfold src;by_cases hin:i<n
   ·rw[VN hin]at hi⊢;rw[VN hin];refine⟨fun e=>hi (kF.2 e),?_,rfl⟩
    subst hκ;unfold ky;rw[VN (by simpa using hin)]
   ·rw[VM hin]at hi⊢;rw[VM hin,VL];cases hx:ext[i-n]? with
    |none=>rw[hx]at hi;exact absurd rfl hi
    |some p=>
     rw[hx]at hi;simp only[Option.getD_some];refine⟨fun e=>hi (kF.2 e),?_,trivial⟩
     subst hκ;unfold ky;have hp:=e1 p (List.mem_of_getElem? hx);rw[VM (by simp;omega)]
     have:∀(l:List Nat) (m k:Nat),l.Nodup->l[k]? =some p->idxOf l m p=some (m+k):=by
      intro l;induction l with
      |nil=>intro m k _ h;simp at h
      |cons x l ih=>
       intro m k hnd h;simp only[idxOf];cases k with
       |zero=>simp at h;subst h;simp
       |succ k=>
        simp at h
        have hne:(x==p)=false:=by
         rw[beq_eq_false_iff_ne];rintro rfl
         exact(List.nodup_cons.1 hnd).1 (List.mem_of_getElem? h)
        rw[hne];simp only[Bool.false_eq_true,if_false];rw[ih (m+1) k (List.nodup_cons.1 hnd).2 h];congr 1;omega
     rw[this ext n (i-n) e2 hx];congr 1;omega
  have hN:∀p i,κ p=some i->known U.res p->known (mT κ U.res n U.res++gq κ U.res ext) i:=fun p i hp hk=>by
   unfold known;rw[hget];have hs:=hπ p i hp;unfold src at hs;by_cases hin:i<n
   ·rw[VN hin]at hs⊢;subst hs;exact fun e=>hk (kF.1 e)
   ·rw[VM hin]at hs⊢;subst hκ;unfold ky at hp;split at hp
    ·simp only[VE]at hp;rename_i hb;simp at hb;omega
    ·obtain⟨_,_,h3⟩:=gK hp;rw[h3];exact fun e=>hk (kF.1 e)
  refine⟨J.pull (src n ext),fun i=>fps (src n ext i),⟨⟨by simpa[pd]using r1.1,fun t=>?_⟩,?_,?_,?_⟩,fun i hi=>?_⟩
  ·rw[sS];have:=r1.2 t;split
   ·rename_i x hx;rw[hx]at this;split
    ·rename_i y hy;obtain⟨a1,a2,_⟩:=jD hv hN x y hy;exact⟨this.1.trans a1.symm,a2 this.2⟩
    ·trivial
   ·trivial
  ·refine⟨fun i hi=>hi,r2.old,r2.os,r2.tape,r2.output,fun i hi=>?_,fun i b hi=>r2.lt _ b (hkn i hi).1,fun i j b hi hj hne=>r2.disj _ _ b (hkn i hi).1 (hkn j hj).1 fun e=>hne ?_,fun i b hi=>r2.inF _ b (hkn i hi).1,r2.same⟩
   ·obtain⟨a1,a2,a3⟩:=hkn i hi;rw[a3];exact gU hv hN a2 _ _ _ (r2.holds _ a1)
   ·have a:=(hkn i hi).2.1;rw[e,(hkn j hj).2.1]at a;simpa using a.symm
  ·obtain⟨a1,_⟩:=pF hv hN _ _ hds;rw[r3];exact a1.symm
  ·exact(pF hv hN _ _ hds).2 r4
  ·simp[Env.pull,src,hi]
 ·simp at h
inductive Gh where
 |bl (c ty:Nat)
 |bv (c e esz:Nat) (l:TL)
 |sl (t e esz:Nat) (l:TL)
 |al (t:Nat)
 |li (t:Nat)
 |dm
def Bo:TL->Bool
 | .ob l=>match l with| []=>true|_=>false
 | .key l=>match l with| []=>true|_=>false
 | .it _ l=>match l with| []=>true|_=>false
 | .bo l=>match l with| []=>true|_=>false
 | .st l=>match l with| []=>true|_=>false
 | .fn n _=>Nat.beq n 0
theorem AP {l:TL} (h:Bo l=true):l.len=0/\l.cells= []:=by
 cases l with
 |fn n g=>
  have:=Nat.eq_of_beq_eq_true h;subst this;exact⟨rfl,rfl⟩
 |ob l=>cases l<;>first|exact⟨rfl,rfl⟩|simp[Bo]at h
 |key l=>cases l<;>first|exact⟨rfl,rfl⟩|simp[Bo]at h
 |it k l=>cases l<;>first|exact⟨rfl,rfl⟩|simp[Bo]at h
 |bo l=>cases l<;>first|exact⟨rfl,rfl⟩|simp[Bo]at h
 |st l=>cases l<;>first|exact⟨rfl,rfl⟩|simp[Bo]at h
def DB (U:St):Gh->Option St
 | .bl c ty=>match an U.res c with
   | .blk t (.ag [.nl (.slice none 0 0)])=>some {U with res:=br U.res c (.blk t (.ag [.sa U.res.length]))++ [.obs ty (U.res.length+1) [],.gen U.res.length]}
   |_=>none
 | .bv c e esz l=>match an U.res c with
   | .blk t (.nl (.slice none 0 0))=>if Bo l then some {U with res:=br U.res c (.blk t (.sa U.res.length))++ [.arr (some e) esz l]}else none
   |_=>none
 | .sl t e esz l=>match bD U.slots t with
   | .v (.nl (.slice none 0 0))=>if Bo l then some {U with slots:=sset (clean U.slots) t (.v (.sa U.res.length)),res:=U.res++ [.arr (some e) esz l]}else none
   |_=>none
 | .al t=>match bD U.slots t with
   | .v (.sa k)=>match an U.res k with
     | .ro r=>match r with
       | .arr _ esz l=>some {U with slots:=sset (clean U.slots) t (.v (.sa U.res.length)),res:=U.res++ [.arr none esz l]}
       |_=>none
     | .arr own esz l=>some {U with slots:=sset (clean U.slots) t (.v (.sa U.res.length)),res:=cA [k] U.res++ [.arr own esz l]}
     |_=>none
   |_=>none
 | .li t=>match bD U.slots t with
   | .v v=>match v with
     | .sc k n c=>match an U.res k with
       | .blk e x=>match MG x with
         |some L=>if n==L.length&&c==n&&Nat.ble n 1000 then some {U with slots:=sset (clean U.slots) t (.v (.sa U.res.length)),res:=cA [k] U.res++ [.arr (some e) 163 (.ob L)]}else none
         |none=>none
       |_=>none
     |_=>none
   |_=>none
 | .dm=>some {U with res:=U.res++ [.dfr],defs:=(0,[.yl U.res.length],[])::U.defs}
def tU:List Gh->St->Option St
 | [],U=>some U
 |g::l,U=>match DB U g with
  |some σ'=>tU l σ'
  |none=>none
def Env.fg (J:Env) (i:Nat):Env:= {J with cap:=fun j=>if j=i then 0 else J.cap j,sa:=fun j=>if j=i then none else J.sa j,sn:=fun j=>if j=i then 0 else J.sn j}
theorem yZ {N:Nat->Prop} {J:Env} {i:Nat} (h:¬N i):Env.bc N J (J.fg i):=fun j hj=>by
 have:j≠i:=fun e=>h (e▸hj)
 simp[Env.fg,this]
def Env.iD (J:Env) (i k:Nat):Env:= {J with cap:=fun j=>if j=i then J.cap k else J.cap j,adr:=fun j=>if j=i then J.adr k else J.adr j,sa:=fun j=>if j=i then J.sa k else J.sa j,sn:=fun j=>if j=i then J.sn k else J.sn j}
theorem uA {N:Nat->Prop} {J:Env} {i k:Nat} (h:¬N i):Env.bc N J (J.iD i k):=fun j hj=>by
 have:j≠i:=fun e=>h (e▸hj)
 simp[Env.iD,this]
theorem PK {K K':Nat->Prop} {J:Env} {i:Nat} {fp fp2:Nat->Prop} {w0 w:World} {F0:Nat->Prop} {own:Option Nat} {esz:Nat} {l:TL} (h:(aB.ro (.arr own esz l)).holds K J i fp w0 F0 w):(aB.arr none esz l).holds K' J i fp2 w0 F0 w:=by
 obtain⟨fp',⟨h1,h2,h3,h4,h5,h6,h7⟩,hf⟩:=h;refine⟨h1,h2,h3,h4,h5,h6,.inl ⟨rfl,?_⟩⟩;rcases h7 with⟨_,h7⟩|⟨e,_,e2,e3⟩
 ·exact h7
 ·refine⟨fun hl=>?_,fun j hj k hk=>?_⟩
  ·obtain⟨g,f1,f2,f3,f4⟩:=jz e2 hl;have ha:=h4 _ f1;rw[<-ha];have:=hf _ (e3 _ f1);exact⟨this.2,this.1⟩
  ·obtain⟨g,f1,f2,f3,f4⟩:=jz e2 (by omega)
   have ha:=h4 _ f1;rw[<-ha];simp only[Nat.zero_add]
   have hlt:j*esz+k<l.len*esz:=by
    have:(j+1)*esz<=l.len*esz:=Nat.mul_le_mul_right _ hj;rw[Nat.succ_mul]at this;omega
   rw[f4 _ hlt];unfold TL.cells;rw[sr (esz:=esz) (fun j hj=>by rw[aT Env.zero _ (h1 j hj).1];exact(h1 j hj).2.2) hj hk]
   rw[cQ (N:=fun _=>False) (J:=J) (ρ':=Env.zero) (fun _ h=>h.elim) _ (h1 j hj).1]
theorem LD {J:Env} {fps:Nat->Nat->Prop} {w0:World} {F0:Nat->Prop} {w:World} {res:List aB} {k esz:Nat} {own:Option Nat} {l:TL} (h:aX J fps res (known res) w0 F0 w) (hrk:an res k= .arr own esz l):
  ∃fps',aX (J.iD res.length k) fps' (cA [k] res++ [.arr own esz l]) (known (cA [k] res++ [.arr own esz l])) w0 F0 w/\Env.bc (known res) J (J.iD res.length k)/\(∀i,known res i->known (cA [k] res++ [.arr own esz l]) i)/\known (cA [k] res++ [.arr own esz l]) res.length:=by
 have hkk:known res k:=by unfold known;rw[hrk];simp
 have hn:¬known res res.length:=by
  unfold known;rw[jq,VL,List.getElem?_eq_none (Nat.le_refl _)];simp
 have hh:=h.holds k hkk;rw[hrk]at hh;obtain⟨a1,a2,a3,a4,a5,a6,a7⟩:=hh;have e1:(J.iD res.length k).adr res.length=J.adr k:=by simp[Env.iD]
 have e2:(J.iD res.length k).sa res.length=J.sa k:=by simp[Env.iD]
 have e3:(J.iD res.length k).sn res.length=J.sn k:=by simp[Env.iD]
 have e4:(J.iD res.length k).sl res.length=J.sl k:=by simp[Env.iD,Env.sl]
 refine h.vL [k] (.arr own esz l) [] (fps k) (by simp) (by simpa using hkk) (by simp) (uA hn) ?_ (fun b hb=> .inl ⟨k,by simp,hb⟩) rfl rfl rfl (Nat.le_refl _) (fun b _ _=>rfl)
 refine⟨a1,by rw[e3];exact a2,a3,by rw[e1,e2];exact a4,by rw[e2];exact a5,by rw[e1];exact a6,?_⟩
 rcases a7 with⟨b0,b1,b2⟩|⟨e,b1,b2,b3⟩
 ·refine .inl ⟨b0,by rw[e1];exact b1,fun j hj x hx=>?_⟩
  rw[e1,b2 j hj x hx,cQ (N:=fun _=>False) (J:=J) (ρ':=J.iD res.length k) (fun _ h=>h.elim) _ (a1 j hj).1]
 ·exact .inr ⟨e,b1,by rw[e4];exact b2,by rw[e2];exact b3⟩
theorem ra {J:Env} {i:Nat}:den (J.fg i) (.sa i)= .slice none 0 0:=by simp[den,Env.fg]
section
variable {J:Env} {fps:Nat->Nat->Prop} {w0 w:World} {F0:Nat->Prop} {a:Act}
theorem aX.beside {res:List aB} (h:aX J fps res (known res) w0 F0 w) {ρ':Env} (hag:Env.bc (known res) J ρ') (res1 new:List aB) (hl:res1.length=res.length)
  (h1:∀i,i<res.length->an res1 i=an res i\/(known res i/\known res1 i/\(an res1 i).holds (known (res1++new)) ρ' i (fps i) w0 F0 w))
  (h2:∀k,k<new.length->(an new k).holds (known (res1++new)) ρ' (res.length+k) (fun _=>False) w0 F0 w):
  ∃fps',aX ρ' fps' (res1++new) (known (res1++new)) w0 F0 w/\Env.bc (known res) J ρ'/\∀i,known res i->known (res1++new) i:=by
 have hget:∀i,an (res1++new) i=if i<res.length then an res1 i else an new (i-res.length):=fun i=>by rw[bK,hl]
 have hmono:∀i,known res i->known (res1++new) i:=fun i hi=>by
  have hlt:=aF hi;unfold known;rw[hget,VN hlt];rcases h1 i hlt with e|⟨_,e,_⟩
  ·rw[e];exact hi
  ·exact e
 obtain⟨fps',g⟩:=h.turn (res':=res1++new) (K':=known (res1++new)) (fun i=>known res i/\known res1 i/\(an res1 i).holds (known (res1++new)) ρ' i (fps i) w0 F0 w)
  (fun i=>(known res i/\known res1 i/\(an res1 i).holds (known (res1++new)) ρ' i (fps i) w0 F0 w)\/res.length<=i) (fun i b=>i<res.length/\fps i b/\known res i) (fun i hi=>hi) hmono hag
  (fun i hi hb=>by
   have hlt:i<res.length:=by
    rcases Nat.lt_or_ge i res.length with h|h
    ·exact h
    ·exact absurd (.inr h) hb
   have hno:=fun h=>hb (.inl h)
   rcases h1 i hlt with e|e
   ·have e2:an (res1++new) i=an res i:=by rw[hget,VN hlt,e]
    exact⟨by unfold known at hi⊢;rw[e2]at hi;exact hi,hno,e2⟩
   ·exact absurd e hno)
  (fun i hi hb=>by
   by_cases hlt:i<res.length
   ·rcases hb with⟨b1,b2,b3⟩|hb
    ·refine⟨?_,fun b hf=> .inl ⟨i,⟨b1,b2,b3⟩,b1,hf.2.1⟩⟩
     rw[hget,VN hlt];have:(fun b=>i<res.length/\fps i b/\known res i)=fps i:=by funext b;simp[hlt,b1]
     rw[this];exact b3
    ·omega
   ·refine⟨?_,fun b hf=>absurd hf.1 hlt⟩
    rw[hget,VM hlt];have:(fun b=>i<res.length/\fps i b/\known res i)=fun _=>False:=by funext b;simp[hlt]
    rw[this]
    have hk:i-res.length<new.length:=by
     unfold known at hi;rw[hget,VM hlt]at hi;exact aF hi
    have:=h2 (i-res.length) hk;rw[show res.length+(i-res.length)=i by omega]at this
    exact this)
  (fun i j b _ _ hne hf hf'=>h.disj i j b hf.2.2 hf'.2.2 hne hf.2.1 hf'.2.1) rfl rfl rfl (Nat.le_refl _) (fun _ _ _=>rfl)
 exact⟨fps',g,hag,hmono⟩
theorem Hu {res:List aB} {k n e:Nat} {x:V} {L:List Obj} (hH:aX J fps res (known res) w0 F0 w) (hr:an res k= .blk e x) (hl:MG x=some L) (hn:n=L.length) (hs:n<=1000):
  ∃fps',aX (J.fH res.length (some ⟨J.num k,0,none⟩) n n) fps' (cA [k] res++ [.arr (some e) 163 (.ob L)]) (known (cA [k] res++ [.arr (some e) 163 (.ob L)])) w0 F0 w/\Env.bc (known res) J (J.fH res.length (some ⟨J.num k,0,none⟩) n n)/\
   (∀i,known res i->known (cA [k] res++ [.arr (some e) 163 (.ob L)]) i)/\known (cA [k] res++ [.arr (some e) 163 (.ob L)]) res.length:=by
 have hk:known res k:=by unfold known;rw[hr];simp
 have hh:=hH.holds k hk;rw[hr]at hh;obtain⟨h1,_,h3,h4⟩:=hh;obtain⟨hcells,hwf⟩:=Gc hl h1;have hcells:=hcells J;have hnk:¬known res res.length:=fun hk=>by have:=aF hk;omega
 have hlen:(TL.ob L).cells.length=n*163:=by
  unfold TL.cells;rw[hn]
  exact rC fun j hj=>by
   rw[show(TL.ob L).get j=V.ob (ak L j free)from rfl,iy];exact lT _
 have hag:=sK (N:=known res) J (i:=res.length) (a:=some ⟨J.num k,0,none⟩) (n:=n) (cap:=n) hnk
 exact hH.vL (ρ':=J.fH res.length (some ⟨J.num k,0,none⟩) n n) (w':=w) [k] (.arr (some e) 163 (.ob L)) [] (fun x=>x=J.num k) (by simp) (by simpa using hk) (by simp) hag
  (by
   refine⟨fun j hj=>⟨hwf j hj,rfl,rfl⟩,by simp[Env.fH,TL.len,hn,aq],by simp only[TL.len,aq];omega,fun a ha=>by simp[Env.fH]at ha⊢;exact ha.symm,fun _=>by simp[Env.fH],fun _=>by simp[Env.fH],.inr ⟨e,fun e' he=>by simpa using he.symm,?_,fun a ha=>by simp[Env.fH]at ha;rw[<-ha]⟩⟩
   rw[show(J.fH res.length (some ⟨J.num k,0,none⟩) n n).sl res.length= .slice (some ⟨J.num k,0,none⟩) n n by simp[Env.sl,Env.fH]]
   rw[hcells]at h4;refine⟨by rw[hlen,hn];rfl,.inr ⟨_,_,_,by rw[hn];rfl,Nat.zero_le _,h4,by rw[show(TL.ob L).len=L.length from rfl];exact Nat.le_refl _,by simp only[maxLen];rw[<-hn];omega,by rw[<-hn];simpa using hlen,?_⟩⟩
   have hh:(TL.ob L).len*163=n*163:=by rw[hn];rfl
   rw[hh];exact List.take_of_length_le (by simpa using Nat.le_of_eq hlen))
  (fun x hx=> .inl ⟨k,by simp,by rw[hx];exact h3⟩) rfl rfl rfl (Nat.le_refl _) (fun _ _ _=>rfl)
theorem C5 {U σ':St} {g:Gh} (h:DB U g=some σ') (hr:jM J fps U w0 F0 a w):∃ρ' fps',jM ρ' fps' σ' w0 F0 a w/\Good J U.res ρ' σ'.res:=by
 have hnk:¬known U.res U.res.length:=fun hk=>by have:=aF hk;omega
 have hag:Env.bc (known U.res) J (J.fg U.res.length):=yZ hnk;have hr0:=hr;obtain⟨r1,r2,r3,r4⟩:=hr;have cell1:∀(l:List V),aW (J.fg U.res.length) l=aW (J.fg U.res.length) l:=fun _=>rfl
 unfold DB at h;split at h
 ·rename_i c ty;split at h<;>simp only[VE,reduceCtorEq]at h
  rename_i t hc;subst h;have hkc:known U.res c:=by unfold known;rw[hc];simp
  have hlt:=aF hkc;have hh:=r2.holds c hkc;rw[hc]at hh;obtain⟨_,_,h3,h4⟩:=hh
  have hkn:known (br U.res c (.blk t (.ag [.sa U.res.length]))++ [.obs ty (U.res.length+1) [],.gen U.res.length]) U.res.length:=by
   unfold known;rw[bK,bS,VM (by omega)];simp[an]
  have hkn':known (br U.res c (.blk t (.ag [.sa U.res.length]))++ [.obs ty (U.res.length+1) [],.gen U.res.length]) (U.res.length+1):=by
   unfold known;rw[bK,bS,VM (by omega),show U.res.length+1-U.res.length=1 by omega];simp[an]
  obtain⟨fps',g1,g2,g3⟩:=r2.beside hag (br U.res c (.blk t (.ag [.sa U.res.length]))) [.obs ty (U.res.length+1) [],.gen U.res.length] (bS _ _ _)
   (fun i hi=>by
    rw[bm _ _ _ _ hlt];by_cases e:i=c
    ·subst e;refine .inr ⟨hkc,by unfold known;rw[bm _ _ _ _ hlt];simp,?_⟩
     simp only[if_true];refine⟨⟨⟨hkn,trivial⟩,trivial,trivial⟩,rfl,by rw[(hag i hkc).1];exact h3,?_⟩
     rw[(hag i hkc).1,h4];rw[eM,eM];simp only[aW,ra];rfl
    ·exact .inl (by rw[VM e]))
   (fun k hk=>by
    have:k=0\/k=1:=by simp at hk;omega
    rcases this with rfl|rfl
    ·simp only[Nat.add_zero];refine⟨hkn',by simp,by simp[Env.fg],by simp,by simp[Env.fg],by simp,?_,by simp⟩
     have:(J.fg U.res.length).sl U.res.length= .slice none 0 0:=by simp[Env.sl,Env.fg]
     rw[this];exact World.ownsRow_nil w 0 ty 1
    ·trivial)
  obtain⟨d1,d2⟩:=eA r4 g2 g3;exact⟨_,fps',⟨r1.env g3 g2,g1,by rw[r3];exact d1.symm,d2⟩,g2,g3⟩
 ·rename_i c e esz l;split at h
  ·rename_i t hc;split at h<;>simp only[VE,reduceCtorEq]at h
   rename_i hl;obtain⟨l1,l2⟩:=AP hl;subst h;have hkc:known U.res c:=by unfold known;rw[hc];simp
   have hlt:=aF hkc;have hh:=r2.holds c hkc;rw[hc]at hh;obtain⟨_,_,h3,h4⟩:=hh
   have hkn:known (br U.res c (.blk t (.sa U.res.length))++ [.arr (some e) esz l]) U.res.length:=by
    unfold known;rw[bK,bS,VM (by omega)];simp[an]
   obtain⟨fps',g1,g2,g3⟩:=r2.beside hag (br U.res c (.blk t (.sa U.res.length))) [.arr (some e) esz l] (bS _ _ _)
    (fun i hi=>by
     rw[bm _ _ _ _ hlt];by_cases e:i=c
     ·subst e;refine .inr ⟨hkc,by unfold known;rw[bm _ _ _ _ hlt];simp,?_⟩
      simp only[if_true];refine⟨hkn,rfl,by rw[(hag i hkc).1];exact h3,?_⟩
      rw[(hag i hkc).1,h4];simp only[cells,ra];rfl
     ·exact .inl (by rw[VM e]))
    (fun k hk=>by
     have:k=0:=by simp at hk;omega
     subst this;simp only[Nat.add_zero];have hs:(J.fg U.res.length).sl U.res.length= .slice none 0 0:=by simp[Env.sl,Env.fg]
     refine⟨fun j hj=>by omega,by simp[Env.fg,l1],by omega,by simp[Env.fg],fun hj=>by omega,fun hj=>by omega,.inr ⟨e,by simp,?_,by simp[Env.fg]⟩⟩
     rw[hs,l1,l2];exact World.ownsRow_nil w 0 e esz)
   obtain⟨d1,d2⟩:=eA r4 g2 g3;exact⟨_,fps',⟨r1.env g3 g2,g1,by rw[r3];exact d1.symm,d2⟩,g2,g3⟩
  ·simp at h
 ·rename_i t e esz l;split at h
  ·rename_i ht;split at h<;>simp only[VE,reduceCtorEq]at h
   rename_i hl;obtain⟨l1,l2⟩:=AP hl;subst h
   have hkn:known (U.res++ [.arr (some e) esz l]) U.res.length:=by
    unfold known;rw[bK,VM (by omega)];simp[an]
   obtain⟨fps',g1,g2,g3⟩:=r2.beside hag U.res [.arr (some e) esz l] rfl (fun i _=> .inl rfl)
    (fun k hk=>by
     have:k=0:=by simp at hk;omega
     subst this;simp only[Nat.add_zero];have hs:(J.fg U.res.length).sl U.res.length= .slice none 0 0:=by simp[Env.sl,Env.fg]
     refine⟨fun j hj=>by omega,by simp[Env.fg,l1],by omega,by simp[Env.fg],fun hj=>by omega,fun hj=>by omega,.inr ⟨e,by simp,?_,by simp[Env.fg]⟩⟩
     rw[hs,l1,l2];exact World.ownsRow_nil w 0 e esz)
   obtain⟨d1,d2⟩:=eA r4 g2 g3;refine⟨_,fps',⟨⟨by rw[fM,iJ];exact r1.1,fun u=>?_⟩,g1,by rw[r3];exact d1.symm,d2⟩,g2,g3⟩
   have hc:=(r1.clean.env g3 g2).2 u;rw[eQ];by_cases e:u=t/\t<(clean U.slots).length
   ·rw[VN e];obtain⟨rfl,_⟩:=e;have:=r1.2 u;rw[ht]at this;refine⟨?_,hkn⟩;rw[this.1,ra];rfl
   ·rw[VM e];rw[jr]at hc⊢;cases hs:bD U.slots u<;>rw[hs]at hc<;>exact hc
  ·simp at h
 ·rename_i t;split at h
  case h_2=>simp at h
  rename_i k ht;split at h
  case h_3=>simp at h
  case h_2=>
   rename_i own esz l hrk;simp only[VE]at h;subst h;obtain⟨fps',g1,g2,g3,g4⟩:=LD r2 hrk;obtain⟨d1,d2⟩:=eA r4 g2 g3;refine⟨_,fps',⟨⟨by rw[fM,iJ];exact r1.1,fun u=>?_⟩,g1,by rw[r3];exact d1.symm,d2⟩,g2,g3⟩
   have hc:=(r1.clean.env g3 g2).2 u;rw[eQ];by_cases e:u=t/\t<(clean U.slots).length
   ·rw[VN e];obtain⟨rfl,_⟩:=e;have:=r1.2 u;rw[ht]at this;refine⟨?_,g4⟩;rw[this.1];simp[den,Env.iD]
   ·rw[VM e];rw[jr]at hc⊢;cases hs:bD U.slots u<;>rw[hs]at hc<;>exact hc
  rename_i r hrk;split at h
  case h_2=>simp at h
  rename_i own esz l;simp only[VE]at h;subst h;have hkk:known U.res k:=by unfold known;rw[hrk];simp
  have hkl:=aF hkk;have hne:k≠U.res.length:=by omega
  have hag:Env.bc (known U.res) J (J.iD U.res.length k):=uA hnk
  have hkn:known (U.res++ [.arr none esz l]) U.res.length:=by
   unfold known;rw[bK,VM (by omega)];simp[an]
  have hro:=r2.holds k hkk;rw[hrk]at hro;obtain⟨a1,a2,a3,a4,a5,a6,a7⟩:=PK (K':=fun _=>True) (fp2:=fun _=>False) hro
  obtain⟨fps',g1,g2,g3⟩:=r2.beside hag U.res [.arr none esz l] rfl (fun i _=> .inl rfl)
   (fun m hm=>by
    have:m=0:=by simp at hm;omega
    subst this;simp only[Nat.add_zero];have e1:(J.iD U.res.length k).adr U.res.length=J.adr k:=by simp[Env.iD]
    have e2:(J.iD U.res.length k).sa U.res.length=J.sa k:=by simp[Env.iD]
    have e3:(J.iD U.res.length k).sn U.res.length=J.sn k:=by simp[Env.iD]
    refine⟨a1,by rw[e3];exact a2,a3,by rw[e1,e2];exact a4,by rw[e2];exact a5,by rw[e1];exact a6,?_⟩
    rcases a7 with⟨_,b1,b2⟩|⟨e,_,_,b3⟩
    ·refine .inl ⟨rfl,by rw[e1];exact b1,fun j hj x hx=>?_⟩
     rw[e1,b2 j hj x hx,cQ (N:=fun _=>False) (J:=J) (ρ':=J.iD U.res.length k) (fun _ h=>h.elim) _ (a1 j hj).1]
    ·by_cases hl:0<l.len
     ·have:=a5 hl;cases hs:J.sa k with
      |none=>rw[hs]at this;simp at this
      |some x=>exact(b3 x hs).elim
     ·exact .inl ⟨rfl,fun h=>absurd h hl,fun j hj=>absurd (Nat.lt_of_le_of_lt (Nat.zero_le _) hj) hl⟩)
  obtain⟨d1,d2⟩:=eA r4 g2 g3;refine⟨_,fps',⟨⟨by rw[fM,iJ];exact r1.1,fun u=>?_⟩,g1,by rw[r3];exact d1.symm,d2⟩,g2,g3⟩
  have hc:=(r1.clean.env g3 g2).2 u;rw[eQ];by_cases e:u=t/\t<(clean U.slots).length
  ·rw[VN e];obtain⟨rfl,_⟩:=e;have:=r1.2 u;rw[ht]at this;refine⟨?_,hkn⟩;rw[this.1];simp[den,Env.iD]
  ·rw[VM e];rw[jr]at hc⊢;cases hs:bD U.slots u<;>rw[hs]at hc<;>exact hc
 ·rename_i t;split at h
  case h_2=>simp at h
  rename_i v ht;split at h
  case h_2=>simp at h
  rename_i k n c;split at h
  case h_2=>simp at h
  rename_i e x hrk;split at h
  case h_2=>simp at h
  rename_i L hL;split at h
  case isFalse=>simp at h
  rename_i hb;simp only[VG,VI,Nat.ble_eq]at hb;obtain⟨⟨hn,rfl⟩,hle⟩:=hb;simp only[VE]at h;subst h;obtain⟨fps',g1,g2,g3,g4⟩:=Hu r2 hrk hL hn hle;obtain⟨d1,d2⟩:=eA r4 g2 g3;refine⟨_,fps',⟨⟨by rw[fM,iJ];exact r1.1,fun u=>?_⟩,g1,by rw[r3];exact d1.symm,d2⟩,g2,g3⟩
  have hc:=(r1.clean.env g3 g2).2 u;rw[eQ];by_cases e:u=t/\t<(clean U.slots).length
  ·rw[VN e];obtain⟨rfl,_⟩:=e;have:=r1.2 u;rw[ht]at this;refine⟨?_,g4⟩;rw[this.1];simp[den,Env.fH]
  ·rw[VM e];rw[jr]at hc⊢;cases hs:bD U.slots u<;>rw[hs]at hc<;>exact hc
 ·simp only[VE]at h;subst h
  obtain⟨fps',g1,g2,g3⟩:=r2.beside hag U.res [.dfr] rfl (fun i hi=> .inl rfl) (fun k hk=>by
   simp only[List.length_singleton,Nat.lt_one_iff]at hk;subst hk;refine⟨fun j hj=>?_,fun j k hj=>?_⟩
   ·simp[Env.fg]at hj
   ·simp[Env.fg]at hj)
  obtain⟨d1,d2⟩:=eA r4 g2 g3;refine⟨_,fps',⟨r1.env g3 g2,g1,?_,fun d hd=>?_⟩,g2,g3⟩
  ·rw[List.flatMap_cons,d1,r3];simp[j6,yN,Env.fg]
  ·rcases List.mem_cons.1 hd with rfl|hd
   ·refine⟨⟨?_,trivial⟩,trivial⟩;show known (U.res++ [.dfr]) U.res.length
    unfold known;rw[bK,VM (by omega)]
    simp[an]
   ·exact d2 d hd
def Env.wC (J:Env) (i p q:Nat):Env:= {J with sn:=fun j=>if j=i then J.sn p+J.sn q else J.sn j,ob:=fun j=>if j=i then fun x=>if x<J.sn p then J.ob p x else J.ob q (x-J.sn p)else J.ob j}
def CM (n:Nat) (U:St):Option St:=
 match U.defs with
 |d1::l=>match l with
  |d2::rest=>match yN d1.2.1 with
   |some p=>match yN d2.2.1 with
    |some q=>match an U.res p with
     | .dfr=>match an U.res q with
       | .dfr=>if p==q||Nat.blt U.res.length n then none else some {U with defs:=(0,[.yl U.res.length],[])::rest,res:=cA [p,q] U.res++ [.dfr]}
       |_=>none
     |_=>none
    |none=>none
   |none=>none
  | []=>none
 | []=>none
def Bw (n:Nat):Nat->St->Option St
 |0,U=>some U
 |k+1,U=>match CM n U with
  |some s=>Bw n k s
  |none=>none
theorem Dg {α:Type} (f g h:Nat->α) (m k:Nat) (h1:∀j,j<m->f j=g j) (h2:∀j,j<k->f (m+j)=h j):(List.range (m+k)).map f=(List.range m).map g++(List.range k).map h:=by
 induction k with
 |zero=>simp only[Nat.add_zero,List.range_zero,List.map_nil,List.append_nil];exact List.map_congr_left fun j hj=>h1 j (List.mem_range.1 hj)
 |succ k ih=>
  rw[<-Nat.add_assoc,List.range_succ,List.range_succ,List.map_append,List.map_append,ih fun j hj=>h2 j (by omega),List.append_assoc]
  simp[h2 k (by omega)]
theorem CG {n:Nat} {U σ':St} (h:CM n U=some σ') (hr:jM J fps U w0 F0 a w):∃ρ' fps',jM ρ' fps' σ' w0 F0 a w/\Env.bc (fun i=>i<n) J ρ':=by
 obtain⟨r1,r2,r3,r4⟩:=hr;unfold CM at h;split at h
 case h_2=>simp at h
 rename_i d1 l hd;split at h
 case h_2=>simp at h
 rename_i d2 rest;split at h
 case h_2=>simp at h
 rename_i p hp;split at h
 case h_2=>simp at h
 rename_i q hq;split at h
 case h_2=>simp at h
 rename_i hrp;split at h
 case h_2=>simp at h
 rename_i hrq;split at h
 case isTrue=>simp at h
 rename_i hc;simp only[VE]at h;subst h;simp only[Bool.or_eq_true,VI,not_or]at hc;obtain⟨hpq,hn⟩:=hc
 have hn:n<=U.res.length:=by
  rcases Nat.lt_or_ge U.res.length n with h|h
  ·exact absurd (by rw[Nat.blt_eq];exact h) hn
  ·exact h
 have hkp:known U.res p:=by unfold known;rw[hrp];simp
 have hkq:known U.res q:=by unfold known;rw[hrq];simp
 have hlp:=aF hkp;have hlq:=aF hkq;have hP:=r2.holds p hkp;have hQ:=r2.holds q hkq;rw[hrp]at hP;rw[hrq]at hQ;obtain⟨P1,P2⟩:=hP;obtain⟨Q1,Q2⟩:=hQ
 have hag:Env.bc (fun i=>i<U.res.length) J (J.wC U.res.length p q):=fun i hi=>by
  have hi:i<U.res.length:=hi;have:i≠U.res.length:=by omega
  simp[Env.wC,this]
 have hagk:Env.bc (known U.res) J (J.wC U.res.length p q):=hag.mono fun i hi=>aF hi
 obtain⟨fps',g1,g2,g3,g4⟩:=r2.vL (w':=w) (ρ':=J.wC U.res.length p q) [p,q] .dfr [] (fun b=>fps p b\/fps q b) (by simp) (fun t ht=>by
   rcases List.mem_cons.1 ht with rfl|ht
   ·exact hkp
   ·simp at ht;subst ht;exact hkq) (by simp) hagk
  (by
   refine⟨fun j hj=>?_,fun j k hj hk e=>?_⟩
   ·simp only[Env.wC,if_true]at hj⊢;by_cases hjp:j<J.sn p
    ·rw[VN hjp];exact⟨.inl (P1 j hjp).1,(P1 j hjp).2⟩
    ·rw[VM hjp];exact⟨.inr (Q1 _ (by omega)).1,(Q1 _ (by omega)).2⟩
   ·simp only[Env.wC,if_true]at hj hk e;by_cases hjp:j<J.sn p<;>by_cases hkp':k<J.sn p
    ·rw[VN hjp,VN hkp']at e;exact P2 j k hjp hkp' e
    ·rw[VN hjp,VM hkp']at e;exact absurd (by rw[e];exact(Q1 _ (by omega)).1) (r2.disj p q _ hkp hkq hpq (P1 j hjp).1)
    ·rw[VM hjp,VN hkp']at e;exact absurd (by rw[<-e];exact(Q1 _ (by omega)).1) (r2.disj p q _ hkp hkq hpq (P1 k hkp').1)
    ·rw[VM hjp,VM hkp']at e;have:=Q2 _ _ (by omega) (by omega) e
     omega)
  (fun b hb=> .inl (hb.elim (fun h=>⟨p,by simp,h⟩) fun h=>⟨q,by simp,h⟩)) rfl rfl rfl (Nat.le_refl _) (fun _ _ _=>rfl)
 have hl:∀d∈rest,eK (known U.res) d.2.1/\eK (known U.res) d.2.2:=fun d hd'=>r4 d (by rw[hd];simp[hd'])
 obtain⟨e1,e2⟩:=eA hl hagk g3;refine⟨_,fps',⟨r1.env g3 hagk,g1,?_,fun d hd'=>?_⟩,hag.mono fun i hi=>by omega⟩
 ·rw[r3,hd];simp only[List.flatMap_cons];rw[e1,<-List.append_assoc];congr 1
  unfold j6;rw[hp,hq];simp only[yN];simp only[Env.wC,if_true];exact(Dg _ _ _ _ _ (fun j hj=>by rw[VN hj]) fun j hj=>by rw[VM (by omega),show J.sn p+j-J.sn p=j by omega]).symm
 ·rcases List.mem_cons.1 hd' with rfl|hd'
  ·exact⟨⟨g4,trivial⟩,trivial⟩
  ·exact e2 d hd'
theorem xD {n:Nat}:∀{k:Nat} {U σ':St} {J:Env} {fps:Nat->Nat->Prop},Bw n k U=some σ'->jM J fps U w0 F0 a w->∃ρ' fps',jM ρ' fps' σ' w0 F0 a w/\Env.bc (fun i=>i<n) J ρ'
 |0,U,σ',J,fps,h,hr=>by simp only[Bw,VE]at h;subst h;exact⟨J,fps,hr,Env.bc.refl _ _⟩
 |k+1,U,σ',J,fps,h,hr=>by
  simp only[Bw]at h;split at h
  ·rename_i s hs;obtain⟨ρ1,fps1,g1,g2⟩:=CG hs hr;obtain⟨ρ2,fps2,g3,g4⟩:=xD h g1;exact⟨ρ2,fps2,g3,g2.trans g4 fun i hi=>hi⟩
  ·simp at h
theorem qW:∀{l:List Gh} {U σ':St} {J:Env} {fps:Nat->Nat->Prop},tU l U=some σ'->jM J fps U w0 F0 a w->∃ρ' fps',jM ρ' fps' σ' w0 F0 a w/\Good J U.res ρ' σ'.res
 | [],U,σ',J,fps,h,hr=>by simp only[tU,VE]at h;subst h;exact⟨J,fps,hr,Good.refl _ _⟩
 |g::l,U,σ',J,fps,h,hr=>by
  simp only[tU]at h;split at h
  ·rename_i σ1 h1;obtain⟨ρ1,fps1,g1,g2⟩:=C5 h1 hr;obtain⟨ρ2,fps2,g3,g4⟩:=qW h g1;exact⟨ρ2,fps2,g3,g2.trans g4⟩
  ·simp at h
end
end Go.Sx
