import Derived.Test.YtmfbohanboiklaaGreatMa2
import Derived.TacticsIn
import Derived.OrdersIn
import Derived.RangeFuncLeaves
import Derived.RangeFuncRecord
set_option linter.unusedSimpArgs false
set_option linter.unusedVariables false
namespace Go.Sx
open Go.RowKit (Below)
structure St where
 slots:List S
 res:List aS
 defs:List (Nat×List V×List V)
def BO:List V->Option Nat
 | [x]=>match x with
   | .yl k=>some k
   |_=>none
 |_=>none
def lO(J:Env)(d:Nat×List V×List V):List Deferred:=
 match BO d.2.1 with
 |some k=>(List.range (J.sn k)).map fun j=> {target:= .collected (J.ob k j),args:= #[]}
 |none=> [{target:= .fn (.func d.1) (bG J d.2.2).toArray,args:=(bG J d.2.1).toArray}]
theorem OX{l:List V}{k:Nat}(h:BO l=some k):l= [.yl k]:=by
 unfold BO at h;split at h
 ·grind
 ·simp at h
def lE(J:Env)(fps:Nat->Nat->Prop)(U:St)(w0:World)(F0:Nat->Prop)(a:Act)(w:World):Prop:=
 jx J (known U.res) U.slots a/\bp J fps U.res (known U.res) w0 F0 w/\a.defers=U.defs.flatMap (lO J)/\∀d∈U.defs,fq (known U.res) d.2.1/\fq (known U.res) d.2.2
def Good(J:Env)(res:List aS)(ρ':Env)(res':List aS):Prop:=Env.agree (known res) J ρ'/\∀i,known res i->known res' i
theorem Good.refl(J:Env)(res:List aS):Good J res J res:=⟨Env.agree.refl _ _,fun _ h=>h⟩
theorem Good.trans{J ρ' ρ'':Env}{r r' r'':List aS}(h:Good J r ρ' r')(h':Good ρ' r' ρ'' r''):Good J r ρ'' r'':=
 ⟨h.1.trans h'.1 h.2,fun i hi=>h'.2 i (h.2 i hi)⟩
theorem fb{J ρ':Env}{K K':Nat->Prop}{l:List (Nat×List V×List V)}(hl:∀d∈l,fq K d.2.1/\fq K d.2.2)(ha:Env.agree K J ρ')(hK:∀i,K i->K' i):
  l.flatMap (lO ρ')=l.flatMap (lO J)/\∀d∈l,fq K' d.2.1/\fq K' d.2.2:=
 ⟨by
  rw[List.flatMap_def,List.flatMap_def];refine congrArg _ (List.map_congr_left fun d hd=>?_)
  ·
   unfold lO;cases hm:BO d.2.1 with
   |none=>simp only[fS ha _ (hl d hd).1,fS ha _ (hl d hd).2]
   |some k=>
    have h1:=(hl d hd).1;rw[OX hm]at h1;simp only[(ha k h1.1).2.2.2.2.1,(ha k h1.1).2.2.2.2.2],fun d hd=>⟨cK hK _ (hl d hd).1,cK hK _ (hl d hd).2⟩⟩
def aM[Fen](P:Program)(f:Nat)(args:List V)(res:List aS)(K:V->List aS->Prop)(KP:V->List aS->Prop):Prop:=
 ∀J fps w0 F0 w,bp J fps res (known res) w0 F0 w->fq (known res) args->
  CallsIn (FF P none) 0 P f (bG J args).toArray w fun e w'=>∃x ρ' fps' res',bp ρ' fps' res' (known res') w0 F0 w'/\Good J res ρ' res'/\ok (known res') x/\
   ((e= .returned (den ρ' x)/\K x res')\/(e= .panicked [{v:=den ρ' x,recovered:=false}]/\KP x res'))
abbrev Handler:=Nat->List V->List aS->(V->List aS->Prop)->(V->List aS->Prop)->Prop
def Handler.OK[Fen](P:Program)(H:Handler):Prop:=∀f args res K KP,H f args res K KP->aM P f args res K KP
def pg(res new:List aS):List aS:=
 match new with
 | []=>res
 |r::l=>res++(r::l)
theorem sT(res new:List aS):pg res new=res++new:=by cases new<;>simp[pg]
def PB(d:Nat):S->Bool
 | .gv ch _=> !named d ch
 |_=>true
def oB(sl:List S)(dst:Option Nat)(s:S):Option (List S):=
 match dst with
 |none=>some sl
 |some d=>if zS d sl&&PB d s then some (sset sl d s)else none
def Fg:List S->Nat->S->(List S->Prop)->Prop
 | [],_,_,k=>k []
 |_::l,0,y,k=>k (y::l)
 |x::l,n+1,y,k=>Fg l n y fun l'=>k (x::l')
theorem zp:∀(l:List S) (n:Nat) (y:S) (k:List S->Prop),Fg l n y k=k (sset l n y)
 | [],_,_,_=>rfl
 |_::_,0,_,_=>rfl
 |_::l,n+1,y,k=>by simp only[Fg,sset];exact zp l n y _
def od(sl:List S)(dst:Option Nat)(s:S)(k:List S->Prop):Prop:=
 match dst with
 |none=>k sl
 |some d=>if zS d sl&&PB d s then Fg sl d s k else False
theorem kN(sl:List S)(dst:Option Nat)(s:S)(k:List S->Prop):od sl dst s k=match oB sl dst s with|some l=>k l|none=>False:=by
 unfold od oB;cases dst with
 |none=>rfl
 |some d=>
  simp only;split
  ·rw[zp]
  ·rfl
def zW:List S->(List S->Prop)->Prop
 | [],k=>k []
 |x::l,k=>match x with
  | .und=>zW l fun l'=>k (.und::l')
  | .ud=>zW l fun l'=>k (.ud::l')
  | .v y=>zW l fun l'=>k (.v y::l')
  | .gv c y=>zW l fun l'=>k (.gv c y::l')
theorem uO:∀(l:List S) (k:List S->Prop),zW l k=k l
 | [],_=>rfl
 |x::l,k=>by cases x<;>simp only[zW]<;>exact uO l _
def mN:List S->(List S->Prop)->Prop
 | [],k=>k []
 |x::l,k=>match x with
  | .v y=>mN l fun l'=>k (.v y::l')
  |_=>mN l fun l'=>k (.und::l')
theorem mo:∀(l:List S) (k:List S->Prop),mN l k=k (clean l)
 | [],_=>rfl
 |x::l,k=>by cases x<;>simp only[mN,clean]<;>exact mo l _
def qw(P:Program)(res:List aS)(t:Nat)(p y:V):Option (List aS):=
 if oG P t==some (fe y)&& !cE y then
  match p with
  | .lp id off=>match aN res id with
    | .blk ty c=>(setAt 8 c off y).map fun c'=>bR res id (.blk ty c')
    |_=>none
  | .lx id off esz n i inner=>match aN res id with
    | .blk ty c=>(JF c off esz n i inner y).map fun c'=>bR res id (.blk ty c')
    |_=>none
  |_=>none
 else none
def ptK(v:V)(z j:Nat):Option V:=
 match v with
 | .ks x z' n lo hi=>match x with
   | .lp id off=>if z==z'&&Nat.blt j (hi-lo)then some (.lp id (off+(lo+j)*z))else none
   |_=>none
 | .sc id len _=>if Nat.blt j len then some (.lp id (j*z))else none
 |_=>none
def lnK:V->Option Nat
 | .ks x _ _ lo hi=>if KO x then some (hi-lo)else none
 | .sc _ len _=>some len
 |_=>none
def rdE(C:Ctx)(res:List aS)(t z:Nat)(v:V):Nat->Nat->Option (List V)
 |_,0=>some []
 |j,m+1=>match ptK v z j with
  |some p=>match Ax C res t p with
   |some r=>match r.1 with
    |none=>match rdE C res t z v (j+1) m with
     |some l=>some (r.2::l)
     |none=>none
    |some _=>none
   |none=>none
  |none=>none
def wrE(P:Program)(t z:Nat)(v:V):Nat->List V->List aS->Option (List aS)
 |_,[],res=>some res
 |j,y::l,res=>match ptK v z j with
  |some p=>match qw P res t p y with
   |some res'=>wrE P t z v (j+1) l res'
   |none=>none
  |none=>none
def cpK(C:Ctx)(res:List aS)(ts:List Nat)(xs:List V):Option (V×List aS):=
 match ts,xs with
 | [t,_],[d,s]=>match C.P.underlying t with
   |some (.slice e)=>match oG C.P e,mf C.P e,lnK d,lnK s with
    |some z,some a,some n,some m=>if a&&cB .i64 ((Nat.min m n:Nat):Int)then match rdE C res e z s 0 (Nat.min m n)with
     |some l=>match wrE C.P e z d 0 l res with
      |some res'=>some (.ci .i64 ((Nat.min m n:Nat):Int),res')
      |none=>none
     |none=>none
     else none
    |_,_,_,_=>none
   |_=>none
 |_,_=>none
def cpA(C:Ctx)(res:List aS)(ts:List Nat)(xs:List V):Option (V×List aS):=
 match cpV C res ts xs with
 |some r=>some r
 |none=>cpK C res ts xs
abbrev eF:=Nat->List V->List aS->(V->List aS->Prop)->(V->List aS->Prop)->Prop
def noY:eF:=fun _ _ _ _ _=>False
theorem Zu{N:Nat->Prop}{g:Nat}{vs caps:List V}(h1:fq N vs)(h2:fq N caps):fq N (Te g vs caps):=by
 grind[Te,jn]
def G4(C:Ctx)(H:Handler)(vs:List V)(res:List aS)(K KP:V->List aS->Prop):V->Prop
 | .fn g caps=>iG C.P (GO g)=true/\H (GO g) (Te g vs caps) res K KP
 | .ch b g caps y=>(b=true->iG C.P (GO g)=true/\H (GO g) (Te g vs caps) res K KP)/\(b=false->G4 C H vs res K KP y)
 |_=>False
theorem xk{C:Ctx}{H:Handler}{vs:List V}{res:List aS}{K KP:V->List aS->Prop}{J:Env}{N:Nat->Prop}:∀fv,G4 C H vs res K KP fv->ok N fv->
  ∃g caps,den J fv=GK g (bG J caps)/\fq N caps/\iG C.P (GO g)=true/\H (GO g) (Te g vs caps) res K KP
 | .fn g caps,h,hk=>⟨g,caps,rfl,hk,h.1,h.2⟩
 | .ch b g caps y,h,hk=>by
   cases b
   ·obtain⟨g',caps',e⟩:=xk (J:=J) y (h.2 rfl) hk.2.1;exact⟨g',caps',e⟩
   ·exact⟨g,caps,rfl,hk.1,(h.1 rfl).1,(h.1 rfl).2⟩
 | .cb _,h,_| .bo _,h,_| .ci _ _,h,_| .it _ _,h,_| .bt _,h,_| .st _,h,_| .nl _,h,_| .lp _ _,h,_| .lx _ _ _ _ _ _,h,_| .sc _ _ _,h,_| .so _ _,h,_| .ap _ _ _ _,h,_| .sa _,h,_| .op _ _,h,_| .yl _,h,_| .ic _ _,h,_| .ag _,h,_| .tp _,h,_
 | .key _,h,_| .sl _,h,_| .by _,h,_| .ob _,h,_| .mp _,h,_| .ax _ _ _ _ _ _ _ _,h,_| .bs _ _ _,h,_| .ks _ _ _ _ _,h,_| .vw _ _ _ _,h,_=>h.elim
def aad(C:Ctx)(res:List aS)(t:Nat)(x y:V):Option (Option Prop×V×List aS):=
 match Zi C res t x y with
 |some r=>some r
 |none=>match Zm C res t x y with
  |some r=>some r
  |none=>match VO C res t x y with
   |some r=>some r
   |none=>Zk C res t x y
theorem KT{C:Ctx}{J:Env}{fps:Nat->Nat->Prop}{res:List aS}{w0 w:World}{F0:Nat->Prop}{t ty:Nat}{x y r:V}{q:Option Prop}{res':List aS}(hC:C.Ek)(h:bp J fps res (known res) w0 F0 w)(ha:aad C res t x y=some (q,r,res'))(hq:cM q)(hx:ok (known res) x)(hy:ok (known res) y):
  ∃w' ρ' fps',(Builtin.append_ #[t,t] ty #[den J x,den J y]).run C.P w= .ok (den ρ' r) w'/\bp ρ' fps' res' (known res') w0 F0 w'/\Env.agree (known res) J ρ'/\(∀i,known res i->known res' i)/\ok (known res') r:=by
 unfold aad at ha;split at ha
 ·rename_i r' hr;simp only[aa]at ha;subst ha;exact LU hC h hr hq hx
 ·split at ha
  ·rename_i r' hr;simp only[aa]at ha;subst ha;exact Lm hC h hr hq hx
  ·split at ha
   ·rename_i r' hr;simp only[aa]at ha;subst ha;exact BA hC h hr hq
   ·exact LR hC h hy ha hq
def Um(C:Ctx)(H:Handler)(Y:eF)(U:St)(ch:List (Nat×Bool))(o:Oper)(K:St->Prop)(KP:V->St->Prop):Prop:=
 match o.op with
 | .store t p x=>match er U.slots ch p,er U.slots ch x,o.dst with
   |some pv,some xv,none=>match qw C.P U.res t pv xv with
    |some res'=>K {U with res:=res'}
    |none=>match H4 C.P U.res t pv xv with
     |some (q,res')=>z7 q (K {U with res:=res'})
     |none=>False
   |_,_,_=>False
 | .insert t m k x=>match er U.slots ch m,er U.slots ch k,er U.slots ch x,o.dst with
   |some mv,some kv,some xv,none=>match UB C.P U.res t mv kv xv with
    |some res'=>K {U with res:=res'}
    |none=>match Tq C.P U.res t mv kv xv with
     |some res'=>K {U with res:=res'}
     |none=>False
   |_,_,_,_=>False
 | .mapEntry t m k=>match er U.slots ch m,er U.slots ch k with
   |some mv,some kv=>match meV C U.res t mv kv with
    |some (q,v,res')=>z7 q (od U.slots o.dst (.v v) fun sl=>K {U with slots:=sl,res:=res'})
    |none=>False
   |_,_=>False
 | .entryStore t m s x=>match er U.slots ch m,er U.slots ch s,er U.slots ch x,o.dst with
   |some mv,some sv,some xv,none=>match esV U.res mv sv xv with
    |some (q,res')=>z7 q (K {U with res:=res'})
    |none=>False
   |_,_,_,_=>False
 | .next it b=>if b then False else match er U.slots ch it with
   |some p=>nxV U.res p fun v res'=>od U.slots o.dst (.v v) fun sl=>K {U with slots:=sl,res:=res'}
   |none=>False
 | .slice t x lo hi mx=>match lo,hi,mx with
   |some l,none,none=>match er U.slots ch x,er U.slots ch l with
    |some xv,some lv=>match slQ C.P U.res t xv lv with
     |some (q,v,res')=>z7 q (od U.slots o.dst (.v v) fun sl=>K {U with slots:=sl,res:=res'})
     |none=>False
    |_,_=>False
   |_,_,_=>False
 | .panic x=>match er U.slots ch x with
   |some (.ic t y)=>KP (.ic t y) {U with slots:=clean U.slots}
   |_=>False
 | .call c=>match c.callee with
   | .value f=>match er U.slots ch f,mZ U.slots ch c.args.toList with
     |some (.fn g caps),some vs=>iG C.P (GO g)=true/\H (GO g) (Te g vs caps) U.res
      (fun x res'=>od U.slots o.dst (.v x) fun sl=>K {U with slots:=sl,res:=res'})
      (fun x res'=>KP x {U with slots:=clean U.slots,res:=res'})
     |some (.ch b g caps y),some vs=>G4 C H vs U.res
      (fun x res'=>od U.slots o.dst (.v x) fun sl=>K {U with slots:=sl,res:=res'})
      (fun x res'=>KP x {U with slots:=clean U.slots,res:=res'}) (.ch b g caps y)
     |some (.yl k),some vs=>Y k vs U.res
      (fun x res'=>od U.slots o.dst (.v x) fun sl=>K {U with slots:=sl,res:=res'})
      (fun x res'=>KP x {U with slots:=clean U.slots,res:=res'})
     |_,_=>False
   | .builtin .append=>match c.argTypes.toList,mZ U.slots ch c.args.toList with
     | [t,t'],some [x,y]=>if t==t' then match aad C U.res t x y with
       |some (q,v,res')=>z7 q (od U.slots o.dst (.v v) fun sl=>K {U with slots:=sl,res:=res'})
       |none=>False
       else False
     |_,_=>False
   | .builtin .copy=>match mZ U.slots ch c.args.toList with
     |some vs=>match cpA C U.res c.argTypes.toList vs with
      |some (v,res')=>od U.slots o.dst (.v v) fun sl=>K {U with slots:=sl,res:=res'}
      |none=>False
     |none=>False
   | .builtin .clear=>match mZ U.slots ch c.args.toList with
     |some vs=>match aak C U.res c.argTypes.toList vs with
      |some res'=>od U.slots o.dst (.v (.tp [])) fun sl=>K {U with slots:=sl,res:=res'}
      |none=>False
     |none=>False
   |_=>False
 | .defer c=>match c.callee,o.dst with
   | .value f,none=>match er U.slots ch f,mZ U.slots ch c.args.toList with
     |some (.fn g caps),some vs=>match BO vs with
      |none=>if Nat.blt g 2000 then K {U with defs:=(g,vs,caps)::U.defs}else False
      |some _=>False
     |_,_=>False
   |_,_=>False
 |_=>False
def xQ:List (Nat×Bool)->Nat->Option Bool
 | [],_=>none
 | (s,w)::c,i=>if s==i then some w else xQ c i
def DA(ch:List (Nat×Bool))(i:Nat)(s:S):S:=
 match s with
 | .v y=>match y with
   | .bo b=>match xQ ch i with
     |some w=> .v (.cb w)
     |none=> .v (.bo b)
   |y=> .v y
 | .gv c y=>if Kw c ch then match y with
   | .bo b=>match xQ ch i with
     |some w=> .v (.cb w)
     |none=> .v (.bo b)
   |y=> .v y
   else .gv c y
 |s=>s
def IZ(ch:List (Nat×Bool)):Nat->List S->List S
 |_,[]=> []
 |i,s::l=>DA ch i s::IZ ch (i+1) l
def fixF(t:Nat)(w:Bool)(i:Nat)(s:S):S:=
 match s with
 | .v y=>match y with
   | .bo b=>if i==t then .v (.cb (!w))else .v (.bo b)
   |y=> .v y
 | .gv c _=>if Kv c t w then .ud else .und
 |s=>s
def Fu(t:Nat)(w:Bool):Nat->List S->List S
 |_,[]=> []
 |i,s::l=>fixF t w i s::Fu t w (i+1) l
def slF(ch:List (Nat×Bool))(l:List S):List S:=
 match ch with
 | [(t,w)]=>match cm l t with
   | .v (.bo _)=>Fu t w 0 l
   |_=>l
 |_=>l
def Bm(C:Ctx)(H:Handler)(Y:eF)(ops:List Oper)(o:Oper)(U:St)(K:St->Prop)(KP:V->St->Prop):Prop:=
 if abB C.P U.slots o then match s6 U.slots ops o.guard with
 |none=>False
 |some none=>od U.slots o.dst .ud fun sl=>K {U with slots:=sl}
 |some (some ch)=>match DK C U.slots U.res U.res.length ch o.op with
  |some (q,x,new)=>
   if ch.isEmpty then
    od U.slots o.dst (.v x) fun sl=>z7 q (K {U with slots:=sl,res:=pg U.res new})
   else if new.isEmpty then
    od U.slots o.dst (.gv ch x) fun sl=>Zh (na U.slots ch) q (K {U with slots:=sl})
   else(na U.slots ch=true->od U.slots o.dst (.v x) fun sl=>z7 q (K {U with slots:=sl,res:=pg U.res new}))/\(na U.slots ch=false->od U.slots o.dst .ud fun sl=>K {U with slots:=sl})
  |none=>if ch.isEmpty then Um C H Y U ch o K KP else(na U.slots ch=true->zW (IZ ch 0 U.slots) fun sl=>Um C H Y {U with slots:=sl} [] o K KP)/\(na U.slots ch=false->zW (slF ch U.slots) fun sl=>od sl o.dst .ud fun sl=>K {U with slots:=sl})
 else False
section
variable {C:Ctx} {J:Env} {fps:Nat->Nat->Prop} {w0 w:World} {F0:Nat->Prop} {a:Act}
theorem jx.oB{K:Nat->Prop}{sl sl':List S}{dst:Option Nat}{s:S}{x:Value}(h:jx J K sl a)(hp:oB sl dst s=some sl')
  (hs:∀d,dst=some d->zS d sl=true->(∀ch y,s= .gv ch y->named d ch=false)->hJ J K (sset sl d s) x s):jx J K sl' (a.put dst x):=by
 unfold Sx.oB at hp;cases dst with
 |none=>simp only[aa]at hp;subst hp;exact h
 |some d=>
  simp only at hp;split at hp
  ·rename_i hc;simp only[aa]at hp;simp only[af]at hc;subst hp;refine h.put hc.1 (hs d rfl hc.1 fun ch y e=>?_)
   subst e;simpa[PB]using hc.2
  ·simp at hp
theorem put_defers(a:Act)(dst:Option Nat)(v:Value):(a.put dst v).defers=a.defers:=by cases dst<;>rfl
theorem iV(w:World)(g:Nat)(cs cs':Array Value)(t:Nat)(h:w.heap[g]? =some (.cells cs t (0,0))):(w.setRow g cs').heap[g]? =some (.cells cs' t (0,0)):=by
 exact setRow_heap w g cs cs' t (0,0) h
theorem Ab{P:Program}{res res':List aS}{K:Nat->Prop}{t:Nat}{p y:V}(h:bp J fps res K w0 F0 w)(hs:qw P res t p y=some res')(hp:ok K p)(hy:ok K y):
  ∃b off ty cs cs',den J p= .pointer (some ⟨b,off,none⟩)/\w.heap[b]? =some (.cells cs ty (0,0))/\(∀w1:World,w1.heap[b]? =some (.cells cs ty (0,0))->(Instr.storeAt t (den J p) (den J y)).run P w1= .ok () (w1.setRow b cs'))/\bp J fps res' K w0 F0 (w.setRow b cs')/\∀i,known res' i↔known res i:=by
 unfold qw at hs;split at hs
 ·rename_i hc;simp only[af,ai,Bool.not_eq_true']at hc;obtain⟨hsz,hty⟩:=hc
  have fin:∀id ty c c' off,aN res id= .blk ty c->JB K J c c' off y->den J p= .pointer (some ⟨J.num id,off,none⟩)->
    ∃b off ty' cs cs',den J p= .pointer (some ⟨b,off,none⟩)/\w.heap[b]? =some (.cells cs ty' (0,0))/\(∀w1:World,w1.heap[b]? =some (.cells cs ty' (0,0))->(Instr.storeAt t (den J p) (den J y)).run P w1= .ok () (w1.setRow b cs'))/\bp J fps (bR res id (.blk ty c')) K w0 F0 (w.setRow b cs')/\∀i,known (bR res id (.blk ty c')) i↔known res i:=by
   intro id ty c c' off hr hput hdp;have hk:known res id:=by unfold known;rw[hr];simp
   have hh:=h.holds id hk;rw[hr]at hh;obtain⟨h1,h2,h3,h4⟩:=hh;refine⟨J.num id,off,ty,(cells J c).toArray,(cells J c').toArray,hdp,h4,fun w1 hw1=>?_,h.write hr hput.2.2.1 hput.2.2.2 rfl rfl rfl (by simp[World.setRow]) (iV w _ _ _ _ h4) fun b hb=>setRow_other w _ _ b hb,fun i=>?_⟩
   ·have hst:=Ae (P:=P) (t:=t) w1 hy hty hsz hw1 hput;rw[hdp];simp only[Instr.storeAt,Instr.sureAddr,Sem.run_bind,Sem.run_pure,Result.andThen_ok];exact hst
   ·grind[known,bI,aY]
  split at hs
  ·rename_i id off;split at hs
   ·rename_i ty c hr;cases hset:setAt 8 c off y with
    |none=>simp[hset]at hs
    |some c'=>
     simp only[hset,Option.map_some,aa]at hs;subst hs;have hh:=h.holds id (by unfold known;rw[hr];simp)
     rw[hr]at hh;exact fin id ty c c' off hr (jk J y hy hty 8 c off c' hh.1 hh.2.1 hset) rfl
   ·simp at hs
  ·rename_i id off esz n i inner;split at hs
   ·rename_i ty c hr;cases hset:JF c off esz n i inner y with
    |none=>simp[hset]at hs
    |some c'=>
     simp only[hset,Option.map_some,aa]at hs;subst hs;have hh:=h.holds id (by unfold known;rw[hr];simp)
     rw[hr]at hh;exact fin id ty c c' _ hr (Hx J hh.1 hh.2.1 hp.2 hy hty hset) rfl
   ·simp at hs
  ·simp at hs
 ·simp at hs
theorem qT{P:Program}{res res':List aS}{K:Nat->Prop}{t:Nat}{p y:V}(h:bp J fps res K w0 F0 w)(hs:qw P res t p y=some res')(hp:ok K p)(hy:ok K y):
  ∃w',(Instr.storeAt t (den J p) (den J y)).run P w= .ok () w'/\bp J fps res' K w0 F0 w'/\∀i,known res' i↔known res i:=by
 obtain⟨b,off,ty,cs,cs',h1,h2,h3,h4,h5⟩:=Ab h hs hp hy;exact⟨_,h3 w h2,h4,h5⟩
theorem Iy{J:Env}{v:V}{n:Nat}(h:lnK v=some n):∃a cap,den J v= .slice (some a) n cap:=by
 unfold lnK at h;split at h
 ·split at h<;>simp only[aa,reduceCtorEq]at h
  rename_i hx;subst h;obtain⟨b,o,hd⟩:=vr (J:=J) hx;simp only[den,xn,hd];exact⟨_,_,rfl⟩
 ·simp only[aa]at h;subst h;exact⟨_,_,rfl⟩
 ·simp at h
theorem Kq{J:Env}{K:Nat->Prop}{v p:V}{z j n cap:Nat}{a:Addr}(h:ptK v z j=some p)(hk:ok K v)(hd:den J v= .slice (some a) n cap):a.spot=none/\den J p= .pointer (some (a.add (j*z)))/\ok K p:=by
 unfold ptK at h;split at h
 ·rename_i x z' n' lo hi;split at h
  case h_2=>simp at h
  rename_i id off;split at h<;>simp only[aa,reduceCtorEq]at h
  rename_i hc;simp only[af,ai,Nat.blt_eq]at hc;obtain⟨rfl,hj⟩:=hc;subst h;obtain⟨hk1,hk2,hk3⟩:=hk;simp only[den,xn]at hd⊢;rw[aq (by omega),add_lit]at hd
  simp only[Value.slice.injEq,aa]at hd;obtain⟨rfl,h2,h3⟩:=hd;rw[add_lit];exact⟨rfl,by simp only[Nat.add_mul,Nat.add_assoc],hk1⟩
 ·split at h<;>simp only[aa,reduceCtorEq]at h
  subst h;simp only[den,Value.slice.injEq,aa]at hd;obtain⟨rfl,h2,h3⟩:=hd;refine⟨rfl,?_,hk⟩;simp only[den];rw[add_lit,Nat.zero_add]
 ·simp at h
theorem add_add{a:Addr}(h:a.spot=none)(i j:Nat):(a.add i).add j=a.add (i+j):=by
 obtain⟨b,o,s⟩:=a;simp only at h;subst h;rw[add_lit,add_lit,add_lit,Nat.add_assoc]
theorem Bi{a:Addr}(h:a.spot=none)(k:Nat):∀(n i:Nat) (acc:Array Value),loadCellsFrom (a.add k) i n acc=loadCellsFrom a (k+i) n acc
 |0,i,acc=>rfl
 |n+1,i,acc=>by
  simp only[loadCellsFrom,add_add h];congr 1
  funext v
  exact Bi h k n (i+1) (acc.push v)
theorem Jh{P:Program}{a:Addr}{w:World}:∀(n i:Nat) (acc ys:Array Value) (w':World),(loadCellsFrom a i n acc).run P w= .ok ys w'->w'=w/\∃xs,ys=acc++xs/\∀acc',(loadCellsFrom a i n acc').run P w= .ok (acc'++xs) w
 |0,i,acc,ys,w',h=>by
  simp only[loadCellsFrom,Sem.run_pure,Result.ok.injEq]at h;obtain⟨rfl,rfl⟩:=h;exact⟨rfl, #[],by simp,fun acc'=>by simp[loadCellsFrom]⟩
 |n+1,i,acc,ys,w',h=>by
  simp only[loadCellsFrom,Sem.run_bind]at h;cases hv:(load (a.add i)).run P w with
  |halt x w1=>rw[hv]at h;simp[Result.andThen]at h
  |ok v w1=>
   have hw:w1=w:=by
    rw[run_load]at hv;split at hv
    ·simp only[Result.ok.injEq]at hv;exact hv.2.symm
    ·grind
   subst hw;rw[hv]at h;simp only[Result.andThen_ok]at h;obtain⟨rfl,xs,rfl,h3⟩:=Jh n (i+1) _ _ _ h;refine⟨rfl, #[v]++xs,by apply Array.ext';simp,fun acc'=>?_⟩
   simp only[loadCellsFrom,Sem.run_bind,hv,Result.andThen_ok,h3];congr 1
   apply Array.ext'
   simp
theorem IY{P:Program}{a:Addr}:∀(p q i:Nat) (acc:Array Value) (w:World),(loadCellsFrom a i (p+q) acc).run P w=((loadCellsFrom a i p acc).run P w).andThen fun acc' w'=>(loadCellsFrom a (i+p) q acc').run P w'
 |0,q,i,acc,w=>by simp[loadCellsFrom]
 |p+1,q,i,acc,w=>by
  rw[show p+1+q=(p+q)+1 by omega]
  simp only[loadCellsFrom,Sem.run_bind];cases hv:(load (a.add i)).run P w with
  |halt x w1=>simp[Result.andThen]
  |ok v w1=>
   simp only[Result.andThen_ok];rw[IY p q (i+1),show i+1+p=i+(p+1) by omega]
theorem FU{C:Ctx}{res:List aS}{K:Nat->Prop}{t z:Nat}{v:V}{a:Addr}{len cap:Nat}(h:bp J fps res K w0 F0 w)(ht:mf C.P t=some true)(hz:oG C.P t=some z)(hk:ok K v)(hd:den J v= .slice (some a) len cap):
  ∀(m j:Nat) (l:List V),rdE C res t z v j m=some l->(∀acc,(loadCellsFrom a (j*z) (m*z) acc).run C.P w= .ok (acc++(br J l).toArray) w)/\fq K l/\qS l
 |0,j,l,hl=>by
  simp only[rdE,aa]at hl;subst hl;exact⟨fun acc=>by simp[loadCellsFrom,br],trivial,trivial⟩
 |m+1,j,l,hl=>by
  simp only[rdE]at hl;split at hl
  case h_2=>simp at hl
  rename_i p hp;split at hl
  case h_2=>simp at hl
  rename_i r hr;split at hl
  case h_2=>simp at hl
  rename_i hq;split at hl<;>simp only[aa,reduceCtorEq]at hl
  rename_i l' hl';subst hl;obtain⟨y1,y2⟩:=r;simp only at hq hr;subst hq;obtain⟨p1,p2,p3⟩:=Kq hp hk hd;obtain⟨e1,e2,e3⟩:=uq h hr trivial p3;obtain⟨i1,i2,i3⟩:=FU h ht hz hk hd m (j+1) l' hl';rw[p2]at e1;simp only[Instr.loadAt,Instr.sureAddr,Sem.run_bind,Sem.run_pure,Result.andThen_ok,loadVar,sF w ht,if_true,fY w hz]at e1;have hag:(den J y2).cells=(cells J y2).toArray:=by simp[cells]
  cases hc:(loadCells (a.add (j*z)) z).run C.P w with
  |halt x w1=>rw[hc]at e1;simp[Result.andThen]at e1
  |ok cs w1=>
   rw[hc]at e1;simp only[Result.andThen_ok,Sem.run_pure,Result.ok.injEq]at e1;obtain⟨e1,rfl⟩:=e1
   have hcs:cs=(cells J y2).toArray:=by
    rw[<-hag,<-e1];rfl
   unfold loadCells at hc;rw[Bi p1]at hc;obtain⟨_,xs,hx,hrun⟩:=Jh _ _ _ _ _ hc;simp only[Nat.add_zero]at hrun;have hxs:xs=(cells J y2).toArray:=by rw[<-hcs,hx];simp
   subst hxs;refine⟨fun acc=>?_,⟨e2,i2⟩,?_,i3⟩
   ·rw[Nat.add_mul,Nat.one_mul,Nat.add_comm,IY,hrun,Result.andThen_ok];rw[show j*z+z=(j+1)*z by rw[Nat.add_mul,Nat.one_mul],i1]
    simp only[br];congr 1
    apply Array.ext'
    simp[cells]
   ·cases y2<;>first|trivial| (simp[cE]at e3)
theorem J6{P:Program}{a:Addr}:∀(xs ys:List Value) (i:Nat) (w:World),(storeCells a (xs++ys) i).run P w=((storeCells a xs i).run P w).andThen fun _ w'=>(storeCells a ys (i+xs.length)).run P w'
 | [],ys,i,w=>by simp[storeCells]
 |x::xs,ys,i,w=>by
  simp only[List.cons_append,storeCells,Sem.run_bind];cases hv:(store (a.add i) x).run P w with
  |halt y w1=>simp[Result.andThen]
  |ok u w1=>
   simp only[Result.andThen_ok];rw[J6 xs ys (i+1),show i+1+xs.length=i+(xs.length+1) by omega]
   rfl
theorem BU{a:Addr}(h:a.spot=none)(k:Nat):∀(xs:List Value) (i:Nat),storeCells (a.add k) xs i=storeCells a xs (k+i)
 | [],i=>rfl
 |x::xs,i=>by
  simp only[storeCells,add_add h,BU h k xs (i+1)];rfl
theorem Fx{P:Program}{K:Nat->Prop}{t z:Nat}{v:V}{a:Addr}{len cap:Nat}(hz:oG P t=some z)(hk:ok K v)(hd:den J v= .slice (some a) len cap):
  ∀(l:List V) (j:Nat) (res res':List aS) (w:World),bp J fps res K w0 F0 w->wrE P t z v j l res=some res'->fq K l->∃w',(storeCells a (br J l) (j*z)).run P w= .ok () w'/\bp J fps res' K w0 F0 w'/\∀i,known res' i↔known res i
 | [],j,res,res',w,h,hl,_=>by
   simp only[wrE,aa]at hl;subst hl;exact⟨w,by simp[br,storeCells],h,fun _=>Iff.rfl⟩
 |y::l,j,res,res',w,h,hl,ho=>by
  simp only[wrE]at hl;split at hl
  case h_2=>simp at hl
  rename_i p hp;split at hl
  case h_2=>simp at hl
  rename_i res1 hr;obtain⟨p1,p2,p3⟩:=Kq hp hk hd;obtain⟨w1,e1,e2,e3⟩:=qT h hr p3 ho.1;obtain⟨w2,i1,i2,i3⟩:=Fx hz hk hd l (j+1) res1 res' w1 e2 hl ho.2;have hlen:=bw J y ho.1
  have hy:fe y=z:=by
   simp_all[qw]
  rw[hy]at hlen;have hsz:(den J y).cells.size=z:=by rw[<-hlen];simp[cells]
  rw[p2]at e1;simp only[Instr.storeAt,Instr.sureAddr,Sem.run_bind,Sem.run_pure,Result.andThen_ok,storeVar,fY w hz,hsz,ne_eq,not_true_eq_false,if_false,Sem.run_ite]at e1;refine⟨w2,?_,i2,fun i=>(i3 i).trans (e3 i)⟩
  rw[BU p1,Nat.add_zero]at e1;simp only[br];rw[J6,show(den J y).cells.toList.length=z from hlen];rw[show(storeCells a (den J y).cells.toList (j*z)).run P w= .ok () w1 from e1,Result.andThen_ok];rw[show j*z+z=(j+1)*z by rw[Nat.add_mul,Nat.one_mul]]
  exact i1
theorem Ru{C:Ctx}{res:List aS}{K:Nat->Prop}{ts:List Nat}{xs:List V}{ty:Nat}{r:V}{res':List aS}(h:bp J fps res K w0 F0 w)(hl:cpA C res ts xs=some (r,res'))(hx:fq K xs):
  ∃w',(Builtin.copy_ ts.toArray ty (bG J xs).toArray).run C.P w= .ok (den J r) w'/\bp J fps res' K w0 F0 w'/\(∀i,known res' i↔known res i)/\ok K r:=by
 unfold cpA at hl;split at hl
 ·simp_all[Sc]
 ·unfold cpK at hl;split at hl
  case h_2=>simp at hl
  rename_i t t' d s;split at hl
  case h_2=>simp at hl
  rename_i e ht;split at hl
  case h_2=>simp at hl
  rename_i z a n m hz hag hn hm;split at hl
  case isFalse=>simp at hl
  rename_i hc;simp only[af,ah]at hc;obtain⟨rfl,hin⟩:=hc;split at hl
  case h_2=>simp at hl
  rename_i l hr;split at hl<;>simp only[aa,ae,reduceCtorEq]at hl
  rename_i res1 hw;obtain⟨rfl,rfl⟩:=hl;obtain⟨hxd,hxs,_⟩:=hx;obtain⟨ad,cd,hd⟩:=Iy (J:=J) hn;obtain⟨as,cs,hs⟩:=Iy (J:=J) hm;obtain⟨r1,r2,r3⟩:=FU h hag hz hxs hs _ _ _ hr;obtain⟨w',e1,e2,e3⟩:=Fx hz hxd hd l 0 res res1 w h hw r2;refine⟨w',?_,e2,e3,hin⟩;have r1:=r1 #[];simp only[Nat.zero_mul,Array.empty_append]at r1 e1;simp only[bG,hd,hs,Builtin.copy_,List.size_toArray,List.getElem?_toArray]
  simp only[List.getElem?_cons_zero,List.getElem?_cons_succ,Sem.run_bind,bC w ht,Result.andThen_ok,Builtin.lenOf,Sem.run_pure,fY w hz,Builtin.firstCells,loadCells,r1,e1,goInt,den]
theorem lE.after{U:St}{ρ':Env}{fps':Nat->Nat->Prop}{res':List aS}{w':World}(h:lE J fps U w0 F0 a w)(hH:bp ρ' fps' res' (known res') w0 F0 w')(hg:Good J U.res ρ' res'):
  lE ρ' fps' {U with res:=res'} w0 F0 a w':=by
 obtain⟨h1,h2,h3,h4⟩:=h;obtain⟨e1,e2⟩:=fb h4 hg.1 hg.2;exact⟨h1.env hg.2 hg.1,hH,by rw[h3];exact e1.symm,e2⟩
def Ht[Fen](P:Program)(Y:eF)(ρ0:Env)(res0:List aS):Prop:=
 ∀k args res K KP,Y k args res K KP->∀J fps w0 F0 w,Good ρ0 res0 J res->bp J fps res (known res) w0 F0 w->known res k->fq (known res) args->
  ∃l fn tmps assign body,(Instr.yield (J.num k) (bG J args).toArray).run P w= .ok (.round l fn tmps assign body) w/\
   ∀ro,RoundIn (FF P ro) 0 P l fn tmps assign body w fun e w'=>∃x ρ' fps' res',bp ρ' fps' res' (known res') w0 F0 w'/\Good J res ρ' res'/\ok (known res') x/\
    ((e= .returned (den ρ' x)/\K x res')\/(e= .panicked [{v:=den ρ' x,recovered:=false}]/\KP x res'))
theorem Ht.WW[Fen]{P:Program}{Y:eF}{ρ0 ρ1:Env}{res0 res1:List aS}(h:Ht P Y ρ0 res0)(hg:Good ρ0 res0 ρ1 res1):Ht P Y ρ1 res1:=
 fun k args res K KP hy J fps w0 F0 w hg1=>h k args res K KP hy J fps w0 F0 w (hg.trans hg1)
theorem ZA[Fen]{P:Program}{ρ0:Env}{res0:List aS}:Ht P noY ρ0 res0:=fun _ _ _ _ _ h=>h.elim
theorem JA[Fen]{o:Oper}{U:St}{ch:List (Nat×Bool)}{q:Option Prop}{x:V}{new:List aS}{K:St->Prop}{next:Act->World->Prop}{Q:Exit->Act->World->Prop}{ro:Option Nat}(hC:C.Sound)
  (ho:DK C U.slots U.res U.res.length ch o.op=some (q,x,new)) (hg:na U.slots ch=true) (h:od U.slots o.dst (.v x) fun sl=>z7 q (K {U with slots:=sl,res:=pg U.res new})) (hr:lE J fps U w0 F0 a w)
  (hn:∀σ' ρ' fps' a' w',K σ'->lE ρ' fps' σ' w0 F0 a' w'->Good J U.res ρ' σ'.res->next a' w'):o.uponIn (FF C.P ro) 0 C.P a next Q ((execOp a.eval o).run C.P w):=by
 obtain⟨h1,h2,h3,h4⟩:=hr;rw[kN]at h;split at h
 ·rename_i sl hsl;obtain⟨hq,hK⟩:=mK h;have hfr:∀k,k<new.length->¬known U.res (U.res.length+k):=fun k _ hk=>by have:=aY hk;omega
  obtain⟨hy,hnew⟩:=nF hC ho h1 h2 hg hq hfr;refine hy.wp fun v w' ⟨ρ',hg,hv,hx⟩=>?_
  have hfr':∀i,known U.res i->¬fresh U.res.length new.length i:=fun i hi hf=>by have:=aY hi;unfold fresh at hf;omega
  have hK':∀i,known U.res i\/fresh U.res.length new.length i->known (pg U.res new) i:=by
   intro i hi;rw[sT];obtain⟨b1,b2,b3⟩:=kX U.res new;rcases hi with hi|⟨f1,f2⟩
   ·unfold known;rw[(b1 i hi).1];exact hi
   ·have:=b3 (i-U.res.length) (by omega)
    rw[show U.res.length+(i-U.res.length)=i by omega]at this
    unfold known;rw[this];exact hnew _ (by omega)
  obtain⟨fps',g1,g2⟩:=h2.grow (res':=pg U.res new) (by rw[sT];exact kX _ _) hfr' hK' hg
  obtain⟨e1,e2⟩:=fb h4 g2 (fun i hi=>hK' i (.inl hi))
  refine hn _ ρ' fps' _ _ hK ⟨?_,g1,by rw[put_defers,h3];exact e1.symm,e2⟩ ⟨g2,fun i hi=>hK' i (.inl hi)⟩
  exact(h1.env (fun i hi=>hK' i (.inl hi)) g2).oB hsl fun _ _ _ _=>⟨hv,dt hK' _ hx⟩
 ·exact h.elim
theorem BJ[Fen]{H:Handler}{Y:eF}{o:Oper}{U:St}{ch:List (Nat×Bool)}{K:St->Prop}{KP:V->St->Prop}{next:Act->World->Prop}{Q:Exit->Act->World->Prop}{ro:Option Nat}(hC:C.Sound)(hH:H.OK C.P)(hY:Ht C.P Y J U.res)
  (hd:ro≠none->ft o) (hab:∀f,o.about C.P w a.eval=some f->(C.P.funcs[f]?).isSome=true) (h:Um C H Y U ch o K KP) (hg:na U.slots ch=true) (hr:lE J fps U w0 F0 a w)
  (hn:∀σ' ρ' fps' a' w',K σ'->lE ρ' fps' σ' w0 F0 a' w'->Good J U.res ρ' σ'.res->next a' w')
  (hp:∀v σ' ρ' fps' w',KP v σ'->ok (known σ'.res) v->lE ρ' fps' σ' w0 F0 a w'->Good J U.res ρ' σ'.res->Q (.panic [{v:=den ρ' v,recovered:=false}]) a w'):
  o.wpIn (FF C.P ro) 0 C.P a w next Q:=by
 have hr0:=hr;obtain⟨h1,h2,h3,h4⟩:=hr;have ov:∀{o:Operand} {y:V},er U.slots ch o=some y->a.eval o=den J y/\ok (known U.res) y:=fun ho=>hU h1 hg ho
 obtain⟨dst,op,type,pos,after,guard⟩:=o
 have fin:∀{v:V} {res':List aS} {ρ':Env} {fps':Nat->Nat->Prop} {w':World},od U.slots dst (.v v) (fun sl=>K {U with slots:=sl,res:=res'})->(execOp a.eval ⟨dst,op,type,pos,after,guard⟩).run C.P w= .ok (.value (den ρ' v)) w'->
   bp ρ' fps' res' (known res') w0 F0 w'->Env.agree (known U.res) J ρ'->(∀i,known U.res i->known res' i)->ok (known res') v->Oper.wpIn (FF C.P ro) 0 C.P ⟨dst,op,type,pos,after,guard⟩ a w next Q:=by
  intro v res' ρ' fps' w' hK hrun g2 g3 g4 g5;rw[kN]at hK;split at hK
  ·rename_i sl hsl;refine eW hd hab ?_;rw[hrun];obtain⟨k1,k2,k3,k4⟩:=hr0.after g2 ⟨g3,g4⟩;exact hn _ ρ' fps' _ _ hK ⟨k1.oB hsl fun _ _ _ _=>⟨rfl,g5⟩,k2,by rw[put_defers];exact k3,k4⟩ ⟨g3,g4⟩
  ·exact hK.elim
 cases op<;>simp only[Um]at h
 case store t p x=>
  split at h
  ·rename_i pv xv hpv hxv;split at h
   ·rename_i res' hs;obtain⟨w',e1,e2,e3⟩:=qT h2 hs (ov hpv).2 (ov hxv).2
    have hrun:(execOp a.eval {dst:=none,op:= .store t p x,type,pos,after,guard}).run C.P w= .ok .skip w':=by
     simp[execOp,(ov hpv).1,(ov hxv).1,e1]
    refine eW hd hab ?_;rw[hrun]
    refine hn _ J fps _ _ h ⟨?_,e2.qH fun i hi=>(e3 i).2 hi,h3,fun d hd=>⟨cK (fun i hi=>(e3 i).2 hi) _ (h4 d hd).1,cK (fun i hi=>(e3 i).2 hi) _ (h4 d hd).2⟩⟩
     ⟨Env.agree.refl _ _,fun i hi=>(e3 i).2 hi⟩
    exact h1.env (fun i hi=>(e3 i).2 hi) (Env.agree.refl _ _)
   ·split at h
    ·rename_i q res' hs;obtain⟨hq,hK⟩:=mK h;obtain⟨w',ρ',fps',e1,e2,e3,e4⟩:=FJ h2 hs hq (ov hpv).2 (ov hxv).2
     have hrun:(execOp a.eval {dst:=none,op:= .store t p x,type,pos,after,guard}).run C.P w= .ok .skip w':=by
      simp[execOp,(ov hpv).1,(ov hxv).1,e1]
     refine eW hd hab ?_;rw[hrun];obtain⟨d1,d2⟩:=fb h4 e3 e4;exact hn _ ρ' fps' _ _ hK ⟨h1.env e4 e3,e2,by rw[show(a.put none undef).defers=a.defers from rfl,h3];exact d1.symm,d2⟩ ⟨e3,e4⟩
    ·exact h.elim
  ·exact h.elim
 case insert t m k x=>
  split at h
  case h_2=>exact h.elim
  rename_i mv kv xv hmv hkv hxv
  obtain⟨res',hs,h⟩:∃res',(UB C.P U.res t mv kv xv=some res'\/Tq C.P U.res t mv kv xv=some res')/\K {U with res:=res'}:=by
   grind
  obtain⟨w',e1,e2,e3⟩:∃w',(Instr.mapUpdate t (den J mv) (den J kv) (den J xv)).run C.P w= .ok () w'/\bp J fps res' (known U.res) w0 F0 w'/\∀i,known res' i↔known U.res i:=by
   grind[Md,Ly]
  have hrun:(execOp a.eval {dst:=none,op:= .insert t m k x,type,pos,after,guard}).run C.P w= .ok .skip w':=by
   simp[execOp,(ov hmv).1,(ov hkv).1,(ov hxv).1,e1]
  refine eW hd hab ?_;rw[hrun]
  refine hn _ J fps _ _ h ⟨?_,e2.qH fun i hi=>(e3 i).2 hi,h3,fun d hd=>⟨cK (fun i hi=>(e3 i).2 hi) _ (h4 d hd).1,cK (fun i hi=>(e3 i).2 hi) _ (h4 d hd).2⟩⟩
   ⟨Env.agree.refl _ _,fun i hi=>(e3 i).2 hi⟩
  exact h1.env (fun i hi=>(e3 i).2 hi) (Env.agree.refl _ _)
 case mapEntry t m k=>
  split at h
  case h_2=>exact h.elim
  rename_i mv kv hm hk;split at h
  case h_2=>exact h.elim
  rename_i q v res' hs;obtain⟨hq,hK⟩:=mK h;obtain⟨w',e1,e2,e3,e4⟩:=QO hC.z h2 hs hq (ov hk).2;have hm':∀i,known U.res i->known res' i:=fun i hi=>(e3 i).2 hi
  exact fin hK (by simp[execOp,(ov hm).1,(ov hk).1,e1]) (e2.qH hm') (Env.agree.refl _ _) hm' (dt hm' _ e4)
 case entryStore t m k x=>
  split at h
  case h_2=>exact h.elim
  rename_i mv kv xv hm hk hx;split at h
  case h_2=>exact h.elim
  rename_i q res' hs;obtain⟨hq,hK⟩:=mK h;obtain⟨w',e1,e2,e3⟩:=Pp (P:=C.P) (t:=t) h2 hs hq (ov hk).2 (ov hx).2
  have hrun:(execOp a.eval {dst:=none,op:= .entryStore t m k x,type,pos,after,guard}).run C.P w= .ok .skip w':=by
   simp[execOp,(ov hm).1,(ov hk).1,(ov hx).1,e1]
  refine eW hd hab ?_;rw[hrun]
  refine hn _ J fps _ _ hK ⟨?_,e2.qH fun i hi=>(e3 i).2 hi,h3,fun d hd=>⟨cK (fun i hi=>(e3 i).2 hi) _ (h4 d hd).1,cK (fun i hi=>(e3 i).2 hi) _ (h4 d hd).2⟩⟩
   ⟨Env.agree.refl _ _,fun i hi=>(e3 i).2 hi⟩
  exact h1.env (fun i hi=>(e3 i).2 hi) (Env.agree.refl _ _)
 case next it b=>
  split at h
  case isTrue=>exact h.elim
  rename_i hb;have hb:b=false:=by simpa using hb
  subst hb;split at h
  case h_2=>exact h.elim
  rename_i p hp';obtain⟨v,res',w',e1,e2,e3,e4,hK⟩:=Q3 (P:=C.P) (ty:=type) h2 h;exact fin hK (by simp[execOp,(ov hp').1,e1]) e2 (Env.agree.refl _ _) (fun i hi=>(e3 i).2 hi) e4
 case slice t x lo hi mx=>
  split at h
  case h_2=>exact h.elim
  rename_i l;split at h
  case h_2=>exact h.elim
  rename_i xv lv hx hl;split at h
  case h_2=>exact h.elim
  rename_i q v res' hs;obtain⟨hq,hK⟩:=mK h;obtain⟨ρ',fps',e1,e2,e3,e4,e5⟩:=Q8 h2 hs hq;exact fin hK (by simp[execOp,(ov hx).1,(ov hl).1,e1]) e2 e3 e4 e5
 case panic x=>
  split at h
  ·rename_i t y hx;obtain⟨e1,e2⟩:=ov hx
   have hrun:(execOp a.eval {dst,op:= .panic x,type,pos,after,guard}).run C.P w= .halt (.panic (den J (.ic t y))) w:=by
    simp[execOp,e1,den,Instr.panic]
   refine eW hd hab ?_;rw[hrun];exact hp _ _ J fps w h e2 ⟨h1.clean,h2,h3,h4⟩ (Good.refl _ _)
  ·exact h.elim
 case call c=>
  split at h
  ·rename_i f hf
   have fnCall:∀(g:Nat) (caps vs:List V),a.eval f=GK g (bG J caps)->fq (known U.res) caps->mZ U.slots ch c.args.toList=some vs->iG C.P (GO g)=true->H (GO g) (Te g vs caps) U.res
     (fun x res'=>od U.slots dst (.v x) fun sl=>K {U with slots:=sl,res:=res'}) (fun x res'=>KP x {U with slots:=clean U.slots,res:=res'})->Oper.wpIn (FF C.P ro) 0 C.P ⟨dst,.call c,type,pos,after,guard⟩ a w next Q:=by
    intro g caps vs e1 e2' has hcall hh;obtain⟨e3,e4⟩:=gW h1 hg has;have hca:=hH _ _ _ _ _ hh J fps w0 F0 w h2 (Zu e4 e2')
    have hrun:(execOp a.eval {dst,op:= .call c,type,pos,after,guard}).run C.P w= .ok (.enter (GO g) (bG J (Te g vs caps)).toArray) w:=by
     obtain⟨callee,args,argTypes⟩:=c;simp only at hf;subst hf;unfold iG at hcall;split at hcall
     ·rename_i fn hfn;simp only[af,bne_iff_ne,ne_eq]at hcall;have hnm:(fn.name== "runtime.NumGoroutine")=false:=by simpa using hcall.1
      have hbd:fn.body.isNone=false:=by
       simp_all
      have ha:args.map a.eval=(bG J vs).toArray:=by apply Array.ext';simp[e3]
      unfold GK at e1;unfold GO at hfn⊢;unfold Te;cases hlo:Nat.blt g 2000 with
      |true=>
       simp only[hlo,if_true]at e1 hfn⊢;have hcat:(bG J vs).toArray++(bG J caps).toArray=(bG J (vs++caps)).toArray:=by simp[jm]
       simp only[execOp,resolve,e1,den,Deferred.ofValue,ha,Sem.run_bind,Sem.run_pure,Result.andThen_ok,invoke,callFunc,run_program,hfn,hnm,Bool.false_eq_true,if_false,hbd,
        Array.empty_append,hcat]
      |false=>
       simp only[hlo,Bool.false_eq_true,if_false]at e1 hfn⊢;have hcat:(bG J caps).toArray++(bG J vs).toArray=(bG J (caps++vs)).toArray:=by simp[jm]
       simp only[execOp,resolve,e1,den,Deferred.ofValue,ha,Sem.run_bind,Sem.run_pure,Result.andThen_ok,invoke,callFunc,run_program,hfn,hnm,Bool.false_eq_true,if_false,hbd,
        Array.append_empty,hcat]
     ·simp at hcall
    refine eW hd hab ?_;rw[hrun];refine⟨fun h=>by simp[FF]at h,CallsIn.mono (zH hca) fun e w' ⟨x,ρ',fps',res',g1,g2,g3,g4⟩=>?_⟩
    have hra:=hr0.after g1 g2;rcases g4 with⟨rfl,hK⟩|⟨rfl,hK⟩
    ·simp only;rw[kN]at hK;split at hK
     ·rename_i sl hsl;obtain⟨k1,k2,k3,k4⟩:=hra;exact hn _ ρ' fps' _ _ hK ⟨k1.oB hsl fun _ _ _ _=>⟨rfl,g3⟩,k2,by rw[put_defers];exact k3,k4⟩ g2
     ·exact hK.elim
    ·obtain⟨k1,k2,k3,k4⟩:=hra;exact hp _ _ ρ' fps' w' hK g3 ⟨k1.clean,k2,k3,k4⟩ g2
   split at h
   ·rename_i g caps vs hfv has;obtain⟨e1,e2⟩:=ov hfv;exact fnCall g caps vs e1 e2 has h.1 h.2
   ·rename_i b g caps y vs hfv has;obtain⟨e1,e2⟩:=ov hfv;obtain⟨g',caps',d1,d2,d3,d4⟩:=xk (J:=J) _ h e2;exact fnCall g' caps' vs (e1.trans d1) d2 has d3 d4
   ·rename_i k vs hfv has;obtain⟨e1,e2⟩:=ov hfv;obtain⟨e3,e4⟩:=gW h1 hg has;obtain⟨l,fn,tmps,assign,body,y1,y2⟩:=hY _ _ _ _ _ h J fps w0 F0 w (Good.refl _ _) h2 e2 e4;refine⟨fun f hf _=>hab f hf,?_⟩
    have hsem:Oper.semAt (FF C.P ro).round a.eval {dst,op:= .call c,type,pos,after,guard}=execOp a.eval {dst,op:= .call c,type,pos,after,guard}:=by
     show Oper.semAt ro _ _=_
     cases ro with
     |none=>exact Oper.semAt_none _ _
     |some l=>exact Oper.semAt_some l _ _ (fun c=>by simp)
    rw[hsem]
    have hrun:(execOp a.eval {dst,op:= .call c,type,pos,after,guard}).run C.P w= .ok (.round l fn tmps assign body) w:=by
     obtain⟨callee,args,argTypes⟩:=c;simp only at hf;subst hf;have ha:args.map a.eval=(bG J vs).toArray:=by apply Array.ext';simp[e3]
     simp only[execOp,resolve,e1,den,Deferred.ofValue,ha,Sem.run_bind,Sem.run_pure,Result.andThen_ok,invoke,callFunc,Array.empty_append,Array.append_empty];exact y1
    rw[hrun];refine⟨fun h=>by simp[FF]at h,RoundIn.mono (y2 ro) fun e w' ⟨x,ρ',fps',res',g1,g2,g3,g4⟩=>?_⟩
    have hra:=hr0.after g1 g2;rcases g4 with⟨rfl,hK⟩|⟨rfl,hK⟩
    ·simp only;rw[kN]at hK;split at hK
     ·rename_i sl hsl;obtain⟨k1,k2,k3,k4⟩:=hra;exact hn _ ρ' fps' _ _ hK ⟨k1.oB hsl fun _ _ _ _=>⟨rfl,g3⟩,k2,by rw[put_defers];exact k3,k4⟩ g2
     ·exact hK.elim
    ·obtain⟨k1,k2,k3,k4⟩:=hra;exact hp _ _ ρ' fps' w' hK g3 ⟨k1.clean,k2,k3,k4⟩ g2
   ·exact h.elim
  ·rename_i hcal;split at h
   ·rename_i t t' x y hts has;split at h
    ·rename_i htt;have htt:=ai.1 htt;subst htt;split at h
     ·rename_i q v res' hap;obtain⟨hq,hK⟩:=mK h;rw[kN]at hK;split at hK
      ·rename_i sl hsl;obtain⟨e3,e4⟩:=gW h1 hg has;obtain⟨w',ρ',fps',g1,g2,g3,g4,g5⟩:=KT (ty:=type) hC.z h2 hap hq e4.1 e4.2.1
       have hrun:(execOp a.eval {dst,op:= .call c,type,pos,after,guard}).run C.P w= .ok (.value (den ρ' v)) w':=by
        obtain⟨callee,args,argTypes⟩:=c;simp only at hcal hts e3;subst hcal;have ha:args.map a.eval= #[den J x,den J y]:=by apply Array.ext';simp[e3,bG]
        have hty:argTypes= #[t,t]:=by apply Array.ext';simpa using hts
        subst hty;simp only[execOp,resolve,Sem.run_bind,Sem.run_pure,Result.andThen_ok,invoke,builtin,ha];rw[g1];rfl
       refine eW hd hab ?_;rw[hrun];obtain⟨k1,k2,k3,k4⟩:=hr0.after g2 ⟨g3,g4⟩;exact hn _ ρ' fps' _ _ hK ⟨k1.oB hsl fun _ _ _ _=>⟨rfl,g5⟩,k2,by rw[put_defers];exact k3,k4⟩ ⟨g3,g4⟩
      ·exact hK.elim
     ·exact h.elim
    ·exact h.elim
   ·exact h.elim
  ·rename_i hcal;split at h
   case h_2=>exact h.elim
   rename_i vs has;split at h
   case h_2=>exact h.elim
   rename_i v res' hcp;rw[kN]at h;split at h
   case h_2=>exact h.elim
   rename_i sl hsl;obtain⟨e3,e4⟩:=gW h1 hg has;obtain⟨w',g1,g2,g3,g5⟩:=Ru (ty:=type) h2 hcp e4
   have hrun:(execOp a.eval {dst,op:= .call c,type,pos,after,guard}).run C.P w= .ok (.value (den J v)) w':=by
    obtain⟨callee,args,argTypes⟩:=c;simp only at hcal e3;subst hcal;have ha:args.map a.eval=(bG J vs).toArray:=by apply Array.ext';simp[e3]
    simp only[execOp,resolve,Sem.run_bind,Sem.run_pure,Result.andThen_ok,invoke,builtin,ha];simp only[Array.toArray_toList]at g1;rw[g1];rfl
   refine eW hd hab ?_;rw[hrun];have hgd:Good J U.res J res':=⟨Env.agree.refl _ _,fun i hi=>(g3 i).2 hi⟩
   obtain⟨k1,k2,k3,k4⟩:=hr0.after (g2.qH fun i hi=>(g3 i).2 hi) hgd
   exact hn _ J fps _ _ h ⟨k1.oB hsl fun _ _ _ _=>⟨rfl,dt (fun i hi=>(g3 i).2 hi) _ g5⟩,k2,by rw[put_defers];exact k3,k4⟩ hgd
  ·rename_i hcal;split at h
   case h_2=>exact h.elim
   rename_i vs has;split at h
   case h_2=>exact h.elim
   rename_i res' hcp;rw[kN]at h;split at h
   case h_2=>exact h.elim
   rename_i sl hsl;obtain⟨e3,e4⟩:=gW h1 hg has;obtain⟨w',g1,g2,g3⟩:=Mo (ty:=type) hC.z h2 hcp e4
   have hrun:(execOp a.eval {dst,op:= .call c,type,pos,after,guard}).run C.P w= .ok (.value (den J (.tp []))) w':=by
    obtain⟨callee,args,argTypes⟩:=c;simp only at hcal e3;subst hcal;have ha:args.map a.eval=(bG J vs).toArray:=by apply Array.ext';simp[e3]
    simp only[execOp,resolve,Sem.run_bind,Sem.run_pure,Result.andThen_ok,invoke,builtin,ha];simp only[Array.toArray_toList]at g1;rw[g1];rfl
   refine eW hd hab ?_;rw[hrun];have hgd:Good J U.res J res':=⟨Env.agree.refl _ _,fun i hi=>(g3 i).2 hi⟩
   obtain⟨k1,k2,k3,k4⟩:=hr0.after (g2.qH fun i hi=>(g3 i).2 hi) hgd
   exact hn _ J fps _ _ h ⟨k1.oB hsl fun _ _ _ _=>⟨rfl,trivial⟩,k2,by rw[put_defers];exact k3,k4⟩ hgd
  ·exact h.elim
 case defer c=>
  split at h
  ·rename_i f hf;split at h
   ·rename_i g caps vs hfv has;obtain⟨e1,e2⟩:=ov hfv;obtain⟨e3,e4⟩:=gW h1 hg has;split at h
    case h_2=>exact h.elim
    rename_i hmk;split at h
    case isFalse=>exact h.elim
    rename_i hlo;have e1:a.eval f= .func (.func g) #[] (bG J caps).toArray:=e1.trans (zm hlo)
    have hrun:(execOp a.eval {dst:=none,op:= .defer c,type,pos,after,guard}).run C.P w= .ok (.defer {target:= .fn (.func g) (bG J caps).toArray,args:=(bG J vs).toArray}) w:=by
     obtain⟨callee,args,argTypes⟩:=c;simp only at hf;subst hf;have ha:args.map a.eval=(bG J vs).toArray:=by apply Array.ext';simp[e3]
     simp[execOp,resolve,e1,den,Deferred.ofValue,ha]
    refine eW hd hab ?_;rw[hrun];refine hn _ J fps _ _ h ⟨h1,h2,by simp[Act.put,h3,lO,hmk],fun d hd=>?_⟩ (Good.refl _ _)
    rcases List.mem_cons.1 hd with rfl|hd
    ·exact⟨e4,e2⟩
    ·exact h4 d hd
   ·exact h.elim
  ·exact h.elim
theorem Fb(ch:List (Nat×Bool)):∀(l:List S) (i t:Nat),cm (IZ ch i l) t=DA ch (i+t) (cm l t)
 | [],i,t=>by simp[IZ,cm,DA]
 |s::l,i,0=>by simp[IZ,cm]
 |s::l,i,t+1=>by simp only[IZ,cm];rw[Fb ch l (i+1) t,show i+1+t=i+(t+1) by omega]
theorem Ao(ch:List (Nat×Bool)):∀(l:List S) (i:Nat),(IZ ch i l).length=l.length
 | [],_=>rfl
 |s::l,i=>by simp[IZ,Ao ch l]
theorem Cg(q:Nat)(w:Bool):∀(l:List S) (i t:Nat),cm (Fu q w i l) t=fixF q w (i+t) (cm l t)
 | [],i,t=>by simp[Fu,cm,fixF]
 |s::l,i,0=>by simp[Fu,cm]
 |s::l,i,t+1=>by simp only[Fu,cm];rw[Cg q w l (i+1) t,show i+1+t=i+(t+1) by omega]
theorem xf(q:Nat)(w:Bool):∀(l:List S) (i:Nat),(Fu q w i l).length=l.length
 | [],_=>rfl
 |s::l,i=>by simp[Fu,xf q w l]
theorem Aa:∀{ch:List (Nat×Bool)} {i:Nat} {w:Bool},xQ ch i=some w->(i,w)∈ch
 | [],_,_,h=>by simp[xQ]at h
 | (s,v)::c,i,w,h=>by
   simp only[xQ]at h;split at h
   ·rename_i e;have e:=ai.1 e;simp only[aa]at h;subst e;subst h;simp
   ·exact List.mem_cons_of_mem _ (Aa h)
theorem MG{sl:List S}{ch:List (Nat×Bool)}(hg:na sl ch=true)(t:Nat):raw (DA ch t (cm sl t))=raw (cm sl t):=by
 have key:∀w,xQ ch t=some w->raw (cm sl t)=some w:=fun w hw=>(yL sl ch).1 hg (t,w) (Aa hw)
 cases hs:cm sl t with
 |und=>rfl
 |ud=>rfl
 |v y=>
  rw[hs]at key;cases y<;>try rfl
  simp only[DA];cases hw:xQ ch t with
  |none=>rfl
  |some w=>exact(key w hw).symm
 |gv c y=>
  rw[hs]at key;simp only[DA];split
  ·cases y<;>try rfl
   simp only;cases hw:xQ ch t with
   |none=>rfl
   |some w=>exact(key w hw).symm
  ·rfl
theorem Du{sl sl':List S}(h:∀t,raw (cm sl' t)=raw (cm sl t)):∀c,na sl' c=na sl c
 | []=>rfl
 | (s,w)::c=>by rw[jt,jt,h,Du h c]
theorem jx.IZ{K:Nat->Prop}{sl:List S}{ch:List (Nat×Bool)}(h:jx J K sl a)(hg:na sl ch=true):jx J K (IZ ch 0 sl) a:=by
 have hget:∀t,cm (Sx.IZ ch 0 sl) t=DA ch t (cm sl t):=fun t=>by rw[Fb,Nat.zero_add]
 have hraw:∀t,raw (cm (Sx.IZ ch 0 sl) t)=raw (cm sl t):=fun t=>by rw[hget,MG hg]
 refine⟨by rw[Ao];exact h.1,fun t=>?_⟩
 rw[hget];have ht:=h.2 t;have key:∀w,xQ ch t=some w->raw (cm sl t)=some w:=fun w hw=>(yL sl ch).1 hg (t,w) (Aa hw)
 cases hs:cm sl t with
 |und=>trivial
 |ud=>rw[hs]at ht;exact ht
 |v y=>
  rw[hs]at ht key;cases y<;>try exact ht
  simp only[DA];cases hw:xQ ch t with
  |none=>exact ht
  |some w=>
   have:=key w hw;simp only[raw,aa]at this;subst this;exact ht
 |gv c y=>
  rw[hs]at ht key;simp only[DA];split
  ·rename_i hsub;obtain⟨e1,e2⟩:=ht.1 (Jx hsub hg);cases y<;>try exact⟨e1,e2⟩
   simp only;cases hw:xQ ch t with
   |none=>exact⟨e1,e2⟩
   |some w=>
    have:=key w hw;simp only[raw,aa]at this;subst this;exact⟨e1,e2⟩
  ·exact⟨fun hgc=>ht.1 (by rwa [Du hraw]at hgc),fun hgc=>ht.2 (by rwa [Du hraw]at hgc)⟩
theorem jx.slF{K:Nat->Prop}{sl:List S}{ch:List (Nat×Bool)}(h:jx J K sl a)(hg:na sl ch=false):jx J K (slF ch sl) a:=by
 unfold Sx.slF;split
 ·rename_i q w;split
  ·rename_i b hq
   have hb:b= !w:=by
    grind[jt,raw,na]
   refine⟨by rw[xf];exact h.1,fun t=>?_⟩
   rw[Cg,Nat.zero_add];have ht:=h.2 t;cases hs:cm sl t with
   |und=>trivial
   |ud=>rw[hs]at ht;exact ht
   |v y=>
    rw[hs]at ht;cases y<;>try exact ht
    simp only[fixF];split
    ·rename_i e;have e:=ai.1 e;subst e;rw[hq]at hs;simp only[S.v.injEq,V.bo.injEq]at hs;subst hs;rw[<-hb];exact ht
    ·exact ht
   |gv c y=>
    rw[hs]at ht;simp only[fixF];split
    ·rename_i hc;refine ht.2 ?_;cases hgc:na sl c with
     |false=>rfl
     |true=>
      simp only[Kv,List.any_eq_true,af,ai]at hc;obtain⟨p,hp,e1,e2⟩:=hc;have:=(yL sl c).1 hgc p hp;rw[e1,e2,hq]at this;simp only[raw,aa]at this;rw[this]at hb;cases w<;>simp at hb
    ·trivial
  ·exact h
 ·exact h
theorem tL[Fen]{H:Handler}{Y:eF}{ops:Array Oper}{o:Oper}{U:St}{K:St->Prop}{KP:V->St->Prop}{next:Act->World->Prop}{Q:Exit->Act->World->Prop}{ro:Option Nat}(hC:C.Sound)(hH:H.OK C.P)(hY:Ht C.P Y J U.res)
  (hd:ro≠none->ft o) (h:Bm C H Y ops.toList o U K KP) (hr:lE J fps U w0 F0 a w)
  (hn:∀σ' ρ' fps' a' w',K σ'->lE ρ' fps' σ' w0 F0 a' w'->Good J U.res ρ' σ'.res->next a' w')
  (hp:∀v σ' ρ' fps' w',KP v σ'->ok (known σ'.res) v->lE ρ' fps' σ' w0 F0 a w'->Good J U.res ρ' σ'.res->Q (.panic [{v:=den ρ' v,recovered:=false}]) a w'):
  (∀f,o.about C.P w a.eval=some f->(FF C.P ro).fn f)/\if Region.wanted o (yielded ops a.tmps)then o.wpIn (FF C.P ro) 0 C.P a w next Q else next (a.put o.dst undef) w:=by
 have hr0:=hr;obtain⟨h1,h2,h3,h4⟩:=hr
 have skip:(od U.slots o.dst .ud fun sl=>K {U with slots:=sl})->next (a.put o.dst undef) w:=fun h=>by
  rw[kN]at h;split at h
  ·rename_i sl hsl;exact hn _ J fps _ _ h ⟨h1.oB hsl fun _ _ _ _=>rfl,h2,by rw[put_defers];exact h3,h4⟩ (Good.refl _ _)
  ·exact h.elim
 unfold Bm at h;split at h
 case isFalse=>exact h.elim
 rename_i hab;have hab:=Gi h1 hab w;refine⟨fun f hf _=>hab f hf,?_⟩
 split at h
 ·exact h.elim
 ·rename_i hc;rw[ng h1 hc];simp only[xW,Bool.false_eq_true,if_false];exact skip h
 ·rename_i ch hc;rw[ng h1 hc];rw[show xW U.slots (some ch)=na U.slots ch from rfl];split at h
  ·rename_i q x new ho;split at h
   ·rename_i hch;have hch:ch= []:=by simpa using hch
    subst hch;simp only[na,if_true];exact eW hd hab (JA hC ho rfl h hr0 hn)
   ·split at h
    ·rename_i hne;have hne:new= []:=by simpa using hne
     subst hne;rw[kN]at h;split at h
     ·rename_i sl hsl;obtain⟨hq,hK⟩:=F5 h;by_cases hgo:na U.slots ch=true
      ·rw[ar hgo];obtain⟨hy,_⟩:=nF hC ho h1 h2 hgo (hq hgo) fun k hk=>by simp at hk
       refine eW hd hab (hy.wp fun v w' ⟨ρ',hg,hv,hx⟩=>?_)
       have hfr':∀i,known U.res i->¬fresh U.res.length ([]:List aS).length i:=fun i hi hf=>by unfold fresh at hf;simp at hf;omega
       have hK':∀i,known U.res i\/fresh U.res.length ([]:List aS).length i->known U.res i:=fun i hi=>by
        grind[fresh]
       obtain⟨fps',g1,g2⟩:=h2.grow (res':=U.res) (by have:=kX U.res [];simpa using this) hfr' hK' hg
       obtain⟨e1,e2⟩:=fb h4 g2 (fun i hi=>hi)
       refine hn _ ρ' fps' _ _ hK ⟨?_,g1,by rw[put_defers,h3];exact e1.symm,e2⟩ ⟨g2,fun i hi=>hi⟩
       refine(h1.env (fun i hi=>hi) g2).oB hsl fun d hd hf hnm=>⟨fun _=>⟨hv,dt hK' _ hx⟩,fun hgf=>?_⟩
       rw[vv (hnm ch x rfl),hgo]at hgf;simp at hgf
      ·rw[aq hgo];refine hn _ J fps _ _ hK ⟨?_,h2,by rw[put_defers];exact h3,h4⟩ (Good.refl _ _)
       refine h1.oB hsl fun d hd hf hnm=>⟨fun hgt=>?_,fun _=>rfl⟩
       rw[vv (hnm ch x rfl)]at hgt;exact absurd hgt hgo
     ·exact h.elim
    ·obtain⟨ht,hf⟩:=h;split
     ·rename_i hgo;exact eW hd hab (JA hC ho hgo (ht hgo) hr0 hn)
     ·rename_i hgo;exact skip (hf (by simpa using hgo))
  ·split at h
   ·grind[na,BJ]
   ·obtain⟨ht,hf⟩:=h;simp only[uO]at ht hf;split
    ·rename_i hgo;exact BJ (U:= {U with slots:=IZ ch 0 U.slots}) hC hH hY hd hab (ht hgo) rfl ⟨h1.IZ hgo,h2,h3,h4⟩ hn hp
    ·rename_i hgo;have hf:=hf (by simpa using hgo)
     rw[kN]at hf;split at hf
     ·rename_i sl hsl;exact hn _ J fps _ _ hf ⟨(h1.slF (by simpa using hgo)).oB hsl fun _ _ _ _=>rfl,h2,by rw[put_defers];exact h3,h4⟩ (Good.refl _ _)
     ·exact hf.elim
end
def iD:List Prop->Prop
 | []=>True
 | [p]=>p
 |p::l=>p/\iD l
theorem uY:∀l:List Prop,iD l↔ ∀p∈l,p
 | []=>by simp[iD]
 | [p]=>by simp only[iD,List.mem_singleton];exact⟨fun h q hq=>hq▸h,fun h=>h p rfl⟩
 |p::q::l=>by
  have:=uY (q::l);simp only[iD,List.mem_cons,forall_eq_or_imp]at this⊢;rw[this]
def pt(a b:Option (List Prop)):Option (List Prop):=
 match a,b with
 |some x,some y=>some (x++y)
 |_,_=>none
def mJ(b:Bool)(l:List Prop):Option (List Prop):=if b then some l else none
mutual
def wK:V->V->Option (List Prop)
 | .cb a,.cb b=>some [a=b]
 | .cb a,.bo b=>some [a=b]
 | .bo a,.cb b=>some [a=b]
 | .bo a,.bo b=>some [a=b]
 | .ci k a,.ci k' b=>mJ (k==k'&&decide (a=b)) []
 | .ci k a,.it k' b=>mJ (k==k') [a=b]
 | .it k a,.ci k' b=>mJ (k==k') [a=b]
 | .it k a,.it k' b=>mJ (k==k') [a=b]
 | .bt a,.bt b=>some [a=b]
 | .st a,.st b=>some [a=b]
 | .nl a,.nl b=>some [a=b]
 | .lp i o,.lp i' o'=>mJ (i==i'&&o==o') []
 | .lx a b c d i e,.lx a' b' c' d' i' e'=>mJ (a==a'&&b==b'&&c==c'&&e==e') [d=d',i=i']
 | .sc i n c,.sc i' n' c'=>mJ (i==i') [n=n',c=c']
 | .so i n,.so i' n'=>mJ (i==i') [n=n']
 | .ap i e j o,.ap i' e' j' o'=>mJ (i==i'&&e==e'&&o==o') [j=j']
 | .sa i,.sa i'=>mJ (i==i') []
 | .op i n,.op i' n'=>mJ (i==i') [n=n']
 | .yl i,.yl i'=>mJ (i==i') []
 | .mp i,.mp i'=>mJ (i==i') []
 | .fn f l,.fn g m=>if f==g then rr l m else none
 | .ic t x,.ic u y=>if t==u then wK x y else none
 | .ag l,.ag m=>rr l m
 | .tp l,.tp m=>rr l m
 | .key a,.key b=>some [a=b]
 | .sl a,.sl b=>some [a=b]
 | .by a,.by b=>some [a=b]
 | .ob a,.ob b=>some [a=b]
 |_,_=>none
def rr:List V->List V->Option (List Prop)
 | [],[]=>some []
 |x::l,y::m=>pt (wK x y) (rr l m)
 |_,_=>none
end
def tn(J:Env)(K:Nat->Prop)(x y:V):Prop:=den J x=den J y/\(ok K x->ok K y)/\cE x=cE y
def ab5(J:Env)(K:Nat->Prop)(x y:List V):Prop:=bG J x=bG J y/\br J x=br J y/\(fq K x->fq K y)/\(qS x->qS y)
theorem tn.refl(J:Env)(K:Nat->Prop)(x:V):tn J K x x:=⟨rfl,id,rfl⟩
theorem jT{a b:Option (List Prop)}{l:List Prop}(h:pt a b=some l)(hl:iD l):∃x y,a=some x/\b=some y/\iD x/\iD y:=by
 unfold pt at h;split at h<;>simp only[aa,reduceCtorEq]at h
 rename_i x y;subst h;rw[uY]at hl;exact⟨x,y,rfl,rfl,(uY x).2 fun p hp=>hl p (List.mem_append.2 (.inl hp)),(uY y).2 fun p hp=>hl p (List.mem_append.2 (.inr hp))⟩
theorem fy{b:Bool}{l m:List Prop}(h:mJ b l=some m):b=true/\m=l:=by
 unfold mJ at h;split at h<;>simp_all
mutual
theorem qY(J:Env)(K:Nat->Prop):∀(x y:V) (l:List Prop),wK x y=some l->iD l->tn J K x y
 | .fn f l,y,m,h,hl=>by
   cases y<;>simp only[wK,reduceCtorEq]at h
   split at h
   ·rename_i he;have he:=ai.1 he;subst he;obtain⟨a,_,c,_⟩:=l9 J K _ _ _ h hl;exact⟨by simp only[den,a],c,rfl⟩
   ·simp at h
 | .ic t x,y,m,h,hl=>by
   cases y<;>simp only[wK,reduceCtorEq]at h
   split at h
   ·rename_i he;have he:=ai.1 he;subst he;obtain⟨a,c,_⟩:=qY J K _ _ _ h hl;exact⟨by simp only[den,a],c,rfl⟩
   ·simp at h
 | .ag l,y,m,h,hl=>by
   cases y<;>simp only[wK,reduceCtorEq]at h
   obtain⟨_,b,c,d⟩:=l9 J K _ _ _ h hl;exact⟨by simp only[den,b],fun hh=>⟨c hh.1,d hh.2⟩,rfl⟩
 | .tp l,y,m,h,hl=>by
   cases y<;>simp only[wK,reduceCtorEq]at h
   obtain⟨a,_,c,_⟩:=l9 J K _ _ _ h hl;exact⟨by simp only[den,a],c,rfl⟩
 | .lp i o,y,m,h,hl=>by
   cases y<;>simp only[wK,reduceCtorEq]at h
   obtain⟨hb,rfl⟩:=fy h;simp only[af,ai]at hb;obtain⟨rfl,rfl⟩:=hb;exact tn.refl _ _ _
 | .ax _ _ _ _ _ _ _ _,y,m,h,hl=>by cases y<;>simp[wK]at h
 | .bs _ _ _,y,m,h,hl=>by cases y<;>simp[wK]at h
 | .ks _ _ _ _ _,y,m,h,hl=>by cases y<;>simp[wK]at h
 | .vw _ _ _ _,y,m,h,hl=>by cases y<;>simp[wK]at h
 | .sa i,y,m,h,hl=>by
   cases y<;>simp only[wK,reduceCtorEq]at h
   obtain⟨hb,rfl⟩:=fy h;have hb:=ai.1 hb;subst hb;exact tn.refl _ _ _
 | .mp i,y,m,h,hl=>by
   cases y<;>simp only[wK,reduceCtorEq]at h
   obtain⟨hb,rfl⟩:=fy h;have hb:=ai.1 hb;subst hb;exact tn.refl _ _ _
 | .yl i,y,m,h,hl=>by
   cases y<;>simp only[wK,reduceCtorEq]at h
   obtain⟨hb,rfl⟩:=fy h;have hb:=ai.1 hb;subst hb;exact tn.refl _ _ _
 | .lx a b c d i e,y,m,h,hl=>by
   cases y<;>simp only[wK,reduceCtorEq]at h
   obtain⟨hb,rfl⟩:=fy h;simp only[af,ai]at hb;obtain⟨⟨⟨rfl,rfl⟩,rfl⟩,rfl⟩:=hb;simp only[iD]at hl;obtain⟨rfl,rfl⟩:=hl;exact tn.refl _ _ _
 | .sc i n c,y,m,h,hl=>by
   cases y<;>simp only[wK,reduceCtorEq]at h
   obtain⟨hb,rfl⟩:=fy h;have hb:=ai.1 hb;subst hb;simp only[iD]at hl;obtain⟨rfl,rfl⟩:=hl;exact tn.refl _ _ _
 | .op i n,y,m,h,hl=>by
   cases y<;>simp only[wK,reduceCtorEq]at h
   obtain⟨hb,rfl⟩:=fy h;have hb:=ai.1 hb;subst hb;simp only[iD]at hl;subst hl;exact tn.refl _ _ _
 | .so i n,y,m,h,hl=>by
   cases y<;>simp only[wK,reduceCtorEq]at h
   obtain⟨hb,rfl⟩:=fy h;have hb:=ai.1 hb;subst hb;simp only[iD]at hl;subst hl;exact tn.refl _ _ _
 | .ap i e j o,y,m,h,hl=>by
   cases y<;>simp only[wK,reduceCtorEq]at h
   obtain⟨hb,rfl⟩:=fy h;simp only[af,ai]at hb;obtain⟨⟨rfl,rfl⟩,rfl⟩:=hb;simp only[iD]at hl;subst hl;exact tn.refl _ _ _
 | .ci k a,y,m,h,hl=>by
   cases y<;>simp only[wK,reduceCtorEq]at h<;>obtain⟨hb,rfl⟩:=fy h
   ·simp only[af,ai,ah]at hb;obtain⟨rfl,rfl⟩:=hb;exact⟨rfl,id,rfl⟩
   ·have hb:=ai.1 hb;subst hb;simp only[iD]at hl;subst hl;exact⟨rfl,id,rfl⟩
 | .it k a,y,m,h,hl=>by
   cases y<;>simp only[wK,reduceCtorEq]at h<;>obtain⟨hb,rfl⟩:=fy h<;>have hb:=ai.1 hb<;>subst hb<;>simp only[iD]at hl<;>subst hl<;>exact⟨rfl,id,rfl⟩
 | .cb a,y,m,h,hl| .bo a,y,m,h,hl| .bt a,y,m,h,hl| .st a,y,m,h,hl| .nl a,y,m,h,hl| .key a,y,m,h,hl| .sl a,y,m,h,hl| .by a,y,m,h,hl| .ob a,y,m,h,hl=>by
   cases y<;>simp only[wK,reduceCtorEq,aa]at h<;>subst h<;>simp only[iD]at hl<;>subst hl<;>exact⟨rfl,id,rfl⟩
theorem l9(J:Env)(K:Nat->Prop):∀(x y:List V) (l:List Prop),rr x y=some l->iD l->ab5 J K x y
 | [],[],_,_,_=>⟨rfl,rfl,id,id⟩
 | [],_::_,_,h,_=>by simp[rr]at h
 |_::_,[],_,h,_=>by simp[rr]at h
 |x::l,y::m,p,h,hp=>by
  simp only[rr]at h;obtain⟨a,b,h1,h2,h3,h4⟩:=jT h hp;obtain⟨e1,e2,e3⟩:=qY J K x y a h1 h3;obtain⟨f1,f2,f3,f4⟩:=l9 J K l m b h2 h4;refine⟨by simp only[bG,e1,f1],by simp only[br,e1,f2],fun hh=>⟨e2 hh.1,f3 hh.2⟩,fun hh=>?_⟩
  rw[eE]at hh⊢;intro z hz;rcases List.mem_cons.1 hz with rfl|hz
  ·rw[<-e3];exact hh x (by simp)
  ·exact(eE _).1 (f4 ((eE _).2 fun q hq=>hh q (by simp[hq]))) z hz
end
def jl(res:List aS)(i:Nat):Bool:=
 match aN res i with
 | .yet=>false
 |_=>true
theorem cI{res:List aS}{i:Nat}:jl res i=true↔known res i:=by
 unfold jl known;cases aN res i<;>simp
mutual
def within(res:List aS):V->Bool
 | .lp i _=>jl res i
 | .lx i _ _ _ _ _=>jl res i
 | .sc i _ _=>jl res i
 | .so i _=>jl res i
 | .ap i _ _ _=>jl res i
 | .ax i _ _ _ _ _ _ _=>jl res i
 | .sa i=>jl res i
 | .op i _=>jl res i
 | .yl i=>jl res i
 | .mp i=>jl res i
 | .ch _ _ l y=>mC res l&&within res y
 | .bs x _ _=>within res x
 | .ks x _ _ _ _=>within res x
 | .vw i _ _ _=>jl res i
 | .fn _ l=>mC res l
 | .ic _ x=>within res x
 | .ag l=>mC res l
 | .tp l=>mC res l
 |_=>true
def mC(res:List aS):List V->Bool
 | []=>true
 |x::l=>within res x&&mC res l
end
mutual
theorem jZ{res:List aS}{K:Nat->Prop}:∀v,within res v=true->ok K v->ok (known res) v
 | .lp i _,h,_| .sc i _ _,h,_| .so i _,h,_| .ap i _ _ _,h,_| .sa i,h,_| .op i _,h,_| .yl i,h,_| .mp i,h,_| .vw i _ _ _,h,_=>cI.1 (by simpa[within]using h)
 | .bs x _ _,h,hk=>⟨jZ x (by simpa only[within]using h) hk.1,hk.2⟩
 | .ks x _ _ _ _,h,hk=>⟨jZ x (by simpa only[within]using h) hk.1,hk.2⟩
 | .ch _ _ l y,h,hk=>by
   simp only[within,af]at h;exact⟨iu l h.1 hk.1,jZ y h.2 hk.2.1,hk.2.2⟩
 | .lx i _ _ _ _ _,h,hk=>⟨cI.1 (by simpa[within]using h),hk.2⟩
 | .ax i _ _ _ _ _ _ _,h,hk=>⟨cI.1 (by simpa[within]using h),hk.2⟩
 | .fn _ l,h,hk=>iu l (by simpa[within]using h) hk
 | .tp l,h,hk=>iu l (by simpa[within]using h) hk
 | .ag l,h,hk=>⟨iu l (by simpa[within]using h) hk.1,hk.2⟩
 | .ic _ x,h,hk=>jZ x (by simpa[within]using h) hk
 | .cb _,_,h| .bo _,_,h| .ci _ _,_,h| .it _ _,_,h| .bt _,_,h| .st _,_,h| .nl _,_,h| .key _,_,h| .sl _,_,h| .by _,_,h| .ob _,_,h=>h
theorem iu{res:List aS}{K:Nat->Prop}:∀l,mC res l=true->fq K l->fq (known res) l
 | [],_,_=>trivial
 |x::l,h,hk=>by
  simp only[mC,af]at h;exact⟨jZ x h.1 hk.1,iu l h.2 hk.2⟩
end
def mG(res:List aS):List S->List S->Option (List Prop)
 | [],[]=>some []
 |x::l,y::m=>match y with
  | .und=>mG res l m
  | .v b=>match x with
    | .v a=>if within res b then pt (wK a b) (mG res l m)else none
    |_=>none
  |_=>none
 |_,_=>none
def YE:TL->TL->Option (List Prop)
 | .fn n g,.fn n' g'=>some [n=n',g=g']
 | .ob a,.ob b=>some [a=b]
 | .key a,.key b=>some [a=b]
 | .it k a,.it k' b=>mJ (k==k') [a=b]
 | .bo a,.bo b=>some [a=b]
 | .st a,.st b=>some [a=b]
 | .qs n a,.qs m b=>mJ (n==m) [a=b]
 |_,_=>none
theorem Mr{a b:TL}{p:List Prop}(h:YE a b=some p)(hp:iD p):a=b:=by
 cases a<;>cases b<;>simp only[YE,aa,reduceCtorEq]at h
 ·subst h;simp only[iD]at hp;obtain⟨rfl,rfl⟩:=hp;rfl
 ·subst h;simp only[iD]at hp;subst hp;rfl
 ·subst h;simp only[iD]at hp;subst hp;rfl
 ·grind[fy,iD]
 ·subst h;simp only[iD]at hp;subst hp;rfl
 ·subst h;simp only[iD]at hp;subst hp;rfl
 ·grind[fy,iD]
def Jf(o' o:Option Nat):Bool:=match o with
 |none=>true
 |some e=>match o' with
  |some e'=>e==e'
  |none=>false
def DM:LoopState->LoopState->Bool
 | .ready,.ready=>true
 | .busy,.busy=>true
 | .done,.done=>true
 | .exhausted,.exhausted=>true
 |_,_=>false
theorem Cx{a b:LoopState}(h:DM a b=true):a=b:=by cases a<;>cases b<;>first|rfl|simp[DM]at h
def qP(all:List aS):aS->aS->Option (List Prop)
 |x,.yet=>some []
 |x,.gone=>match x with
  | .yet=>none
  |_=>some []
 |x,.blk t c=>match x with
  | .blk t' c'=>if t==t'&&within all c then wK c' c else none
  |_=>none
 |x,.arr o e g=>match x with
  | .arr o' e' g'=>if e==e'&&Jf o' o then YE g' g else none
  |_=>none
 |x,.obs t q L=>match x with
  | .obs t' q' L'=>if t==t'&&q==q'&&jl all q then some [L'=L]else none
  |_=>none
 |x,.gen j=>match x with
  | .gen j'=>if j==j' then some []else none
  |_=>none
 |x,.store t e L=>match x with
  | .store t' e' L'=>if t==t'&&e==e' then some [L'=L]else none
  |_=>none
 |x,.lop r s j=>match x with
  | .lop r' s' j'=>match j with
    |none=>match j' with
     |none=>if DM s' s then some [r'=r]else none
     |some _=>none
    |some _=>none
  |_=>none
 |x,.dfr=>match x with
  | .dfr=>some []
  |_=>none
 |x,.mp k ks vs=>match x with
  | .mp k' ks' vs'=>if k==k'&&mC all vs then pt (some [ks'=ks]) (rr vs' vs)else none
  |_=>none
 |_,.mq _ _=>none
 |x,.ms n D=>match x with
  | .ms n' D'=>if n==n' then some [D'=D]else none
  |_=>none
 |x,.mi m n S=>match x with
  | .mi m' n' S'=>if m==m'&&jl all m then some [n'=n,S'=S]else none
  |_=>none
 |x,.que t e g=>match x with
  | .que t' e' g'=>if t==t'&&e==e' then some [g'=g]else none
  |_=>none
 |x,.cset t e n s D Q=>match x with
  | .cset t' e' n' s' D' Q'=>if t==t'&&e==e'&&n==n' then(match s with
    | .lp k o=>match s' with
      | .lp k' o'=>if k==k'&&o==o'&&jl all k then some [D'=D,Q'=Q]else none
      |_=>none
    |_=>none)else none
  |_=>none
 |x,.ro y=>match x with
  | .ro x=>match y with
    | .yet=>none
    |_=>qP all x y
  |_=>none
def rD(all:List aS):List aS->List aS->Option (List Prop)
 |_,[]=>some []
 |x::l,y::m=>match y with
  | .yet=>rD all l m
  |_=>pt (qP all x y) (rD all l m)
 | [],y::m=>match y with
   | .yet=>rD all [] m
   |_=>none
def sG(res:List aS):List (Nat×List V×List V)->List (Nat×List V×List V)->Option (List Prop)
 | [],[]=>some []
 | (f,a,b)::l,(g,c,d)::m=>if f==g&&mC res c&&mC res d then pt (pt (rr a c) (rr b d)) (sG res l m)else none
 |_,_=>none
def adl(U τ:St):Option (List Prop):=
 pt (mG τ.res U.slots τ.slots) (pt (rD τ.res U.res τ.res) (sG τ.res U.defs τ.defs))
def Sub(U τ:St):Prop:=
 match adl U τ with
 |some l=>iD l
 |none=>False
section
variable {J:Env} {fps:Nat->Nat->Prop} {w0 w:World} {F0:Nat->Prop} {a:Act}
def BH(J:Env)(K:Nat->Prop)(x:Value):S->Prop
 | .und=>True
 | .v b=>x=den J b/\ok K b
 |_=>False
theorem BH.ok{K:Nat->Prop}{sl:List S}{x:Value}{s:S}(h:BH J K x s):hJ J K sl x s:=by
 cases s with
 |und=>trivial
 |v b=>exact h
 |ud=>exact h.elim
 |gv ch b=>exact h.elim
theorem tB{K:Nat->Prop}{res:List aS}{sl0:List S}:∀(l m:List S) (p:List Prop),mG res l m=some p->iD p->l.length=m.length/\
  ∀t x,hJ J K sl0 x (cm l t)->BH J (known res) x (cm m t)
 | [],[],_,_,_=>⟨rfl,fun t x _=>by simp[cm,BH]⟩
 | [],_::_,_,h,_=>by simp[mG]at h
 |_::_,[],_,h,_=>by simp[mG]at h
 |x::l,y::m,p,h,hp=>by
  have key:∀(q:List Prop),mG res l m=some q->iD q->(∀z,hJ J K sl0 z x->BH J (known res) z y)->
    (x::l).length=(y::m).length/\∀t z,hJ J K sl0 z (cm (x::l) t)->BH J (known res) z (cm (y::m) t):=by
   intro q hq hq' hz;obtain⟨e1,e2⟩:=tB l m q hq hq';refine⟨by simp[e1],fun t z hh=>?_⟩
   cases t with
   |zero=>exact hz z hh
   |succ t=>exact e2 t z hh
  simp only[mG]at h;split at h
  ·exact key p h hp fun _ _=>trivial
  ·rename_i b;split at h
   ·rename_i a';split at h
    ·rename_i hw;obtain⟨u,v,h1,h2,h3,h4⟩:=jT h hp;refine key v h2 h4 fun z hz=>?_
     obtain⟨e1,e2,_⟩:=qY J K a' b u h1 h3;exact⟨hz.1.trans e1,jZ b hw (e2 hz.2)⟩
    ·simp at h
   ·simp at h
  ·simp at h
theorem BZ{K:Nat->Prop}{all:List aS}:∀(x y:aS) (p:List Prop),qP all x y=some p->iD p->y≠ .yet->x≠ .yet/\∀j fp w0 F0 w,x.holds K J j fp w0 F0 w->y.holds (known all) J j fp w0 F0 w
 |x,.yet,p,h,hp,hy=>absurd rfl hy
 |x,.gone,p,h,hp,hy=>by
  unfold qP at h;split at h
  ·simp at h
  ·rename_i hx;exact⟨hx,fun _ _ _ _ _ _=>trivial⟩
 |x,.blk t c,p,h,hp,hy=>by
  unfold qP at h;split at h
  ·rename_i t' c';split at h
   ·rename_i hc;simp only[af,ai]at hc;obtain⟨rfl,hw⟩:=hc;refine⟨by simp,fun j fp w0 F0 w hh=>?_⟩
    obtain⟨e1,e2,e3⟩:=qY J K c' c p h hp;obtain⟨g1,g2,g3,g4⟩:=hh;exact⟨jZ c hw (e2 g1),by rw[<-e3];exact g2,g3,by rw[g4];simp only[cells,e1]⟩
   ·simp at h
  ·simp at h
 |x,.arr o e g,p,h,hp,hy=>by
  unfold qP at h;split at h
  ·rename_i o' e' g';split at h
   ·rename_i hc;simp only[af,ai]at hc;obtain⟨rfl,hc2⟩:=hc;have:=Mr h hp;subst this;refine⟨by simp,fun j fp w0 F0 w hh=>?_⟩
    obtain⟨a1,a2,a3,a4,a5,a6,a7⟩:=hh;refine⟨a1,a2,a3,a4,a5,a6,?_⟩;rcases a7 with⟨b1,b2⟩|⟨x,b1,b2⟩
    ·refine .inl ⟨?_,b2⟩;subst b1;cases o with
     |none=>rfl
     |some z=>simp[Jf]at hc2
    ·refine .inr ⟨x,fun z hz=>?_,b2⟩
     subst hz;cases o' with
     |none=>simp[Jf]at hc2
     |some y=>
      have:=b1 y rfl;simp only[Jf,ai]at hc2;omega
   ·simp at h
  ·simp at h
 |x,.obs t q L,p,h,hp,hy=>by
  unfold qP at h;split at h
  ·split at h
   ·rename_i hc;simp only[af,ai]at hc;obtain⟨⟨rfl,rfl⟩,hkq⟩:=hc;simp only[aa]at h;subst h;simp only[iD]at hp;subst hp;exact⟨by simp,fun j fp w0 F0 w hh=>⟨cI.1 hkq,hh.2⟩⟩
   ·simp at h
  ·simp at h
 |x,.gen j,p,h,hp,hy=>by
  unfold qP at h;split at h
  ·exact⟨by simp,fun _ _ _ _ _ _=>trivial⟩
  ·simp at h
 |x,.store t e L,p,h,hp,hy=>by
  unfold qP at h;split at h
  ·split at h
   ·rename_i hc;simp only[af,ai]at hc;obtain⟨rfl,rfl⟩:=hc;simp only[aa]at h;subst h;simp only[iD]at hp;subst hp;exact⟨by simp,fun j fp w0 F0 w hh=>hh⟩
   ·simp at h
  ·simp at h
 |x,.lop r s j,p,h,hp,hy=>by
  unfold qP at h;split at h
  ·split at h
   ·split at h
    ·split at h
     ·rename_i hs;have:=Cx hs;subst this;simp only[aa]at h;subst h;simp only[iD]at hp;subst hp;exact⟨by simp,fun j fp w0 F0 w hh=>hh⟩
     ·simp at h
    ·simp at h
   ·simp at h
  ·simp at h
 |x,.dfr,p,h,hp,hy=>by
  unfold qP at h;split at h
  ·exact⟨by simp,fun j fp w0 F0 w hh=>hh⟩
  ·simp at h
 |x,.mp k ks vs,p,h,hp,hy=>by
  unfold qP at h;split at h
  case h_2=>simp at h
  rename_i k' ks' vs';split at h
  case isFalse=>simp at h
  rename_i hc;simp only[af,ai]at hc;obtain⟨rfl,hw⟩:=hc;obtain⟨u,v,h1,h2,h3,h4⟩:=jT h hp;simp only[aa]at h1;subst h1;simp only[iD]at h3;subst h3;refine⟨by simp,fun j fp w0 F0 w hh=>?_⟩
  obtain⟨e1,e2,e3,e4⟩:=l9 J K vs' vs v h2 h4;obtain⟨g1,g2,g3,g4,g5,es,clock,g6,g7,g8⟩:=hh;refine⟨g1,iu vs hw (e3 g2),e4 g3,g4,?_,es,clock,g6,g7,by rw[g8,e1]⟩
  have:=congrArg List.length e1;simp only[jm,List.length_map]at this;rw[g5,this]
 |x,.mq _ _,p,h,hp,hy=>by simp[qP]at h
 |x,.ms n D,p,h,hp,hy=>by
  unfold qP at h;split at h
  case h_2=>simp at h
  split at h<;>simp only[aa,reduceCtorEq]at h
  rename_i n' D' hn;have hn:=ai.1 hn;subst hn;subst h;simp only[iD]at hp;subst hp;exact⟨by simp,fun j fp w0 F0 w hh=>hh⟩
 |x,.mi m n S,p,h,hp,hy=>by
  unfold qP at h;split at h
  case h_2=>simp at h
  split at h<;>simp only[aa,reduceCtorEq]at h
  rename_i m' n' S' hn;simp only[af,ai]at hn;obtain⟨rfl,hk⟩:=hn;subst h;simp only[iD]at hp;obtain⟨rfl,rfl⟩:=hp;exact⟨by simp,fun j fp w0 F0 w hh=>⟨cI.1 hk,hh.2⟩⟩
 |x,.que t e g,p,h,hp,hy=>by
  unfold qP at h;split at h
  case h_2=>simp at h
  split at h
  case isFalse=>simp at h
  rename_i t' e' g' hn;simp only[af,ai]at hn;obtain⟨rfl,rfl⟩:=hn;simp only[aa]at h;subst h;simp only[iD]at hp;subst hp;exact⟨by simp,fun j fp w0 F0 w hh=>hh⟩
 |x,.cset t e n s D Q,p,h,hp,hy=>by
  unfold qP at h;split at h
  case h_2=>simp at h
  split at h
  case isFalse=>simp at h
  rename_i t' e' n' s' D' Q' hn;simp only[af,ai]at hn;obtain⟨⟨rfl,rfl⟩,rfl⟩:=hn;split at h
  case h_2=>simp at h
  split at h
  case h_2=>simp at h
  split at h<;>simp only[aa,reduceCtorEq]at h
  rename_i hk;simp only[af,ai]at hk;obtain⟨⟨rfl,rfl⟩,hk⟩:=hk;subst h;simp only[iD]at hp;obtain⟨rfl,rfl⟩:=hp;exact⟨by simp,fun j fp w0 F0 w hh=>⟨cI.1 hk,hh.2⟩⟩
 |x,.ro y,p,h,hp,hy=>by
  unfold qP at h;split at h
  ·rename_i x';split at h
   ·simp at h
   ·rename_i hyy;obtain⟨e1,e2⟩:=BZ x' y p h hp hyy;refine⟨by simp,fun j fp w0 F0 w hh=>?_⟩
    obtain⟨fp',g1,g2⟩:=hh;exact⟨fp',e2 j fp' w0 F0 w0 g1,g2⟩
  ·simp at h
theorem rR{K:Nat->Prop}{all:List aS}:∀(l m:List aS) (p:List Prop),rD all l m=some p->iD p->∀i,known m i->known l i/\
  ∀j fp w0 F0 w,(aN l i).holds K J j fp w0 F0 w->(aN m i).holds (known all) J j fp w0 F0 w
 |_,[],_,_,_,i,hi=>by simp[known,aN]at hi
 | [],y::m,p,h,hp,i,hi=>by
   simp only[rD]at h;split at h
   ·cases i with
    |zero=>simp[known,aN]at hi
    |succ i=>
     obtain⟨h1,h2⟩:=rR (K:=K) [] m p h hp i hi;simp[known,aN]at h1
   ·simp at h
 |x::l,y::m,p,h,hp,i,hi=>by
  have key:∀(q:List Prop),rD all l m=some q->iD q->(y≠ .yet->x≠ .yet/\∀j fp w0 F0 w,x.holds K J j fp w0 F0 w->y.holds (known all) J j fp w0 F0 w)->
    known (x::l) i/\∀j fp w0 F0 w,(aN (x::l) i).holds K J j fp w0 F0 w->(aN (y::m) i).holds (known all) J j fp w0 F0 w:=by
   intro q hq hq' hz;cases i with
   |zero=>exact hz hi
   |succ i=>exact rR l m q hq hq' i hi
  simp only[rD]at h;split at h
  ·exact key p h hp fun hh=>absurd rfl hh
  ·rename_i hy;obtain⟨u,v,h1,h2,h3,h4⟩:=jT h hp;exact key v h2 h4 fun hy'=>BZ x y u h1 h3 hy'
theorem Ss{a c:List V}{l:List Prop}(h:rr a c=some l):BO a=BO c:=by
 match a,c with
 | [],[]=>rfl
 | [],_::_=>simp[rr]at h
 |_::_,[]=>simp[rr]at h
 | [x],[y]=>
   simp only[rr]at h;unfold pt at h;split at h<;>simp only[aa,reduceCtorEq]at h
   rename_i hx _;unfold BO
   cases x<;>cases y<;>simp only[wK,reduceCtorEq]at hx<;>first
    |rfl
    | (have hb:=ai.1 (fy hx).1;subst hb;rfl)
 | [x],y::z::m=>
   simp only[rr,pt]at h;split at h<;>simp_all
 |x::z::m,[y]=>
  simp only[rr,pt]at h;split at h<;>simp_all
 |_::_::_,_::_::_=>rfl
theorem vA{K:Nat->Prop}{res:List aS}:∀(l m:List (Nat×List V×List V)) (p:List Prop),sG res l m=some p->iD p->(∀d∈l,fq K d.2.1/\fq K d.2.2)->
  l.flatMap (lO J)=m.flatMap (lO J)/\∀d∈m,fq (known res) d.2.1/\fq (known res) d.2.2
 | [],[],_,_,_,_=>⟨rfl,by simp⟩
 | [],_::_,_,h,_,_=>by simp[sG]at h
 |_::_,[],_,h,_,_=>by simp[sG]at h
 | (f,a,b)::l,(g,c,d)::m,p,h,hp,hk=>by
   simp only[sG]at h;split at h
   ·rename_i hc;simp only[af,ai]at hc;obtain⟨⟨rfl,w1⟩,w2⟩:=hc;obtain⟨u,v,h1,h2,h3,h4⟩:=jT h hp;obtain⟨u1,u2,i1,i2,i3,i4⟩:=jT h1 h3;obtain⟨e1,_,e2,_⟩:=l9 J K a c u1 i1 i3;obtain⟨f1,_,f2,_⟩:=l9 J K b d u2 i2 i4;obtain⟨g1,g2⟩:=vA l m v h2 h4 fun d hd=>hk d (by simp[hd])
    have hk0:=hk (f,a,b) (by simp)
    have hde:lO J (f,a,b)=lO J (f,c,d):=by
     grind[Ss,lO,BO]
    refine⟨by rw[List.flatMap_cons,List.flatMap_cons,hde,g1],fun d' hd'=>?_⟩
    rcases List.mem_cons.1 hd' with rfl|hd'
    ·exact⟨iu _ w1 (e2 hk0.1),iu _ w2 (f2 hk0.2)⟩
    ·exact g2 d' hd'
   ·simp at h
theorem Sub.rep{U τ:St}(h:Sub U τ)(hr:lE J fps U w0 F0 a w):lE J fps τ w0 F0 a w/\∀i,known τ.res i->known U.res i:=by
 unfold Sub at h;split at h
 ·rename_i l hl;obtain⟨u,v,h1,h2,h3,h4⟩:=jT hl h;obtain⟨v1,v2,i1,i2,i3,i4⟩:=jT h2 h4;obtain⟨r1,r2,r3,r4⟩:=hr;obtain⟨s1,s2⟩:=tB (J:=J) (K:=known U.res) (sl0:=U.slots) _ _ u h1 h3;have hres:=fun i hi=>rR (J:=J) (K:=known U.res) _ _ v1 i1 i3 i hi
  obtain⟨d1,d2⟩:=vA (J:=J) (K:=known U.res) _ _ v2 i2 i4 r4;refine⟨⟨⟨by rw[<-s1];exact r1.1,fun t=>(s2 t _ (r1.2 t)).ok⟩,?_,by rw[r3,d1],d2⟩,fun i hi=>(hres i hi).1⟩
  have hk:∀i,known τ.res i->known U.res i:=fun i hi=>(hres i hi).1
  exact⟨fun i hi=>hi,r2.old,r2.os,r2.tape,r2.output,fun i hi=>(hres i hi).2 _ _ _ _ _ (r2.holds i (hk i hi)),fun i b hi=>r2.lt i b (hk i hi),
   fun i j b hi hj=>r2.disj i j b (hk i hi) (hk j hj),fun i b hi=>r2.inF i b (hk i hi),r2.same⟩
 ·exact h.elim
end
def Qk:List V->Option (List Obj)
 | []=>some []
 |v::l=>match v with
  | .ob o=>match Qk l with
    |some m=>some (o::m)
    |none=>none
  |_=>none
theorem Cj:∀{l:List V} {L:List Obj},Qk l=some L->l=L.map V.ob
 | [],L,h=>by simp only[Qk,aa]at h;subst h;rfl
 |v::l,L,h=>by
  simp only[Qk]at h;split at h
  ·split at h<;>simp only[aa,reduceCtorEq]at h
   rename_i o m hm;subst h;rw[Cj hm];rfl
  ·simp at h
theorem AM(J:Env)(L:List Obj):br J (L.map V.ob)=(TL.ob L).cells:=by
 unfold TL.cells;rw[Bt]
 have h:∀M:List Obj,(M.map V.ob).flatMap (cells J)=(List.range M.length).flatMap fun j=>cells Env.zero (.ob (aL M j free)):=by
  intro M;induction M with
  |nil=>rfl
  |cons o M ih=>
   rw[List.map_cons,List.flatMap_cons,ih,List.length_cons,List.range_succ_eq_map,List.flatMap_cons,List.flatMap_map];congr 1
 exact h L
def Ml(x:V):Option (List Obj):=
 match x with
 | .ag l=>Qk l
 | .ob o=>some [o]
 |_=>none
theorem Mj{x:V}{L:List Obj}{N:Nat->Prop}(h:Ml x=some L)(hx:ok N x):(∀J,cells J x=(TL.ob L).cells)/\∀j,j<L.length->(aL L j free).wf:=by
 unfold Ml at h;split at h
 ·have:=Cj h;subst this;refine⟨fun J=>by rw[dF,AM],fun j hj=>?_⟩
  have:=(jn _).1 hx.1 (.ob (L[j])) (by simp)
  have this:(L[j]).wf:=this;simpa[aL,an,hj]using this
 ·rename_i o;simp only[aa]at h;subst h;refine⟨fun J=>?_,fun j hj=>?_⟩
  ·have:=AM J [o];rw[<-this];simp[br,cells]
  ·have:j=0:=by simp at hj;omega
   subst this;exact hx
 ·simp at h
mutual
def fP(κ:Nat->Option Nat):V->Option V
 | .lp i off=>match κ i with
   |some j=>some (.lp j off)
   |none=>none
 | .lx i off esz n k inner=>match κ i with
   |some j=>some (.lx j off esz n k inner)
   |none=>none
 | .sc i len cap=>match κ i with
   |some j=>some (.sc j len cap)
   |none=>none
 | .so i len=>match κ i with
   |some j=>some (.so j len)
   |none=>none
 | .ap i esz k off=>match κ i with
   |some j=>some (.ap j esz k off)
   |none=>none
 | .sa i=>match κ i with
   |some j=>some (.sa j)
   |none=>none
 | .op i k=>match κ i with
   |some j=>some (.op j k)
   |none=>none
 | .yl i=>match κ i with
   |some j=>some (.yl j)
   |none=>none
 | .mp i=>match κ i with
   |some j=>some (.mp j)
   |none=>none
 | .ch _ _ _ _=>none
 | .ax _ _ _ _ _ _ _ _=>none
 | .bs _ _ _=>none
 | .ks _ _ _ _ _=>none
 | .vw _ _ _ _=>none
 | .fn f l=>match eY κ l with
   |some m=>some (.fn f m)
   |none=>none
 | .ic t x=>match fP κ x with
   |some y=>some (.ic t y)
   |none=>none
 | .ag l=>match eY κ l with
   |some m=>some (.ag m)
   |none=>none
 | .tp l=>match eY κ l with
   |some m=>some (.tp m)
   |none=>none
 | .cb b=>some (.cb b)
 | .bo b=>some (.bo b)
 | .ci k n=>some (.ci k n)
 | .it k n=>some (.it k n)
 | .bt b=>some (.bt b)
 | .st s=>some (.st s)
 | .nl v=>some (.nl v)
 | .key k=>some (.key k)
 | .sl s=>some (.sl s)
 | .by b=>some (.by b)
 | .ob o=>some (.ob o)
def eY(κ:Nat->Option Nat):List V->Option (List V)
 | []=>some []
 |x::l=>match fP κ x with
  |some y=>match eY κ l with
   |some m=>some (y::m)
   |none=>none
  |none=>none
end
def Env.via(κ:Nat->Option Nat)(J ρ':Env):Prop:=∀p i,κ p=some i->ρ'.num i=J.num p/\ρ'.cap i=J.cap p/\ρ'.adr i=J.adr p/\ρ'.sa i=J.sa p/\ρ'.sn i=J.sn p/\ρ'.ob i=J.ob p
section
variable {κ:Nat->Option Nat} {J ρ':Env} {N N':Nat->Prop}
mutual
theorem j8(hv:Env.via κ J ρ')(hN:∀p i,κ p=some i->N p->N' i):∀v v',fP κ v=some v'->den ρ' v'=den J v/\(ok N v->ok N' v')/\cE v'=cE v
 | .lp i off,v',h=>by
   simp only[fP]at h;split at h<;>simp only[aa,reduceCtorEq]at h
   rename_i j hj;subst h;exact⟨by simp only[den,(hv i j hj).1],fun hk=>hN i j hj hk,rfl⟩
 | .lx i off esz n k inner,v',h=>by
   simp only[fP]at h;split at h<;>simp only[aa,reduceCtorEq]at h
   rename_i j hj;subst h;exact⟨by simp only[den,(hv i j hj).1],fun hk=>⟨hN i j hj hk.1,hk.2⟩,rfl⟩
 | .sc i len cap,v',h=>by
   simp only[fP]at h;split at h<;>simp only[aa,reduceCtorEq]at h
   rename_i j hj;subst h;exact⟨by simp only[den,(hv i j hj).1],fun hk=>hN i j hj hk,rfl⟩
 | .so i len,v',h=>by
   simp only[fP]at h;split at h<;>simp only[aa,reduceCtorEq]at h
   rename_i j hj;subst h;exact⟨by simp only[den,(hv i j hj).1,(hv i j hj).2.1],fun hk=>hN i j hj hk,rfl⟩
 | .ap i esz k off,v',h=>by
   simp only[fP]at h;split at h<;>simp only[aa,reduceCtorEq]at h
   rename_i j hj;subst h;exact⟨by simp only[den,(hv i j hj).2.2.1],fun hk=>hN i j hj hk,rfl⟩
 | .sa i,v',h=>by
   simp only[fP]at h;split at h<;>simp only[aa,reduceCtorEq]at h
   rename_i j hj;subst h;exact⟨by simp only[den,(hv i j hj).2.1,(hv i j hj).2.2.2.1,(hv i j hj).2.2.2.2.1],fun hk=>hN i j hj hk,rfl⟩
 | .yl i,v',h=>by
   simp only[fP]at h;split at h<;>simp only[aa,reduceCtorEq]at h
   rename_i j hj;subst h;exact⟨by simp only[den,(hv i j hj).1],fun hk=>hN i j hj hk,rfl⟩
 | .mp i,v',h=>by
   simp only[fP]at h;split at h<;>simp only[aa,reduceCtorEq]at h
   rename_i j hj;subst h;exact⟨by simp only[den,(hv i j hj).1],fun hk=>hN i j hj hk,rfl⟩
 | .ch b f l y,v',h=>by simp[fP]at h
 | .ax _ _ _ _ _ _ _ _,v',h=>by simp[fP]at h
 | .bs _ _ _,v',h=>by simp[fP]at h
 | .ks _ _ _ _ _,v',h=>by simp[fP]at h
 | .vw _ _ _ _,v',h=>by simp[fP]at h
 | .op i k,v',h=>by
   simp only[fP]at h;split at h<;>simp only[aa,reduceCtorEq]at h
   rename_i j hj;subst h;exact⟨by simp only[den,(hv i j hj).2.2.2.2.2],fun hk=>hN i j hj hk,rfl⟩
 | .fn f l,v',h=>by
   simp only[fP]at h;split at h<;>simp only[aa,reduceCtorEq]at h
   rename_i m hm;subst h;obtain⟨a,_,c,_⟩:=jq hv hN l m hm;exact⟨by simp only[den,a],c,rfl⟩
 | .ic t x,v',h=>by
   simp only[fP]at h;split at h<;>simp only[aa,reduceCtorEq]at h
   rename_i m hm;subst h;obtain⟨a,c,_⟩:=j8 hv hN x m hm;exact⟨by simp only[den,a],c,rfl⟩
 | .ag l,v',h=>by
   simp only[fP]at h;split at h<;>simp only[aa,reduceCtorEq]at h
   rename_i m hm;subst h;obtain⟨_,b,c,d⟩:=jq hv hN l m hm;exact⟨by simp only[den,b],fun hk=>⟨c hk.1,d hk.2⟩,rfl⟩
 | .tp l,v',h=>by
   simp only[fP]at h;split at h<;>simp only[aa,reduceCtorEq]at h
   rename_i m hm;subst h;obtain⟨a,_,c,_⟩:=jq hv hN l m hm;exact⟨by simp only[den,a],c,rfl⟩
 | .cb b,v',h| .bo b,v',h| .ci _ b,v',h| .it _ b,v',h| .bt b,v',h| .st b,v',h| .nl b,v',h| .key b,v',h| .sl b,v',h| .by b,v',h| .ob b,v',h=>by
   simp only[fP,aa]at h;subst h;exact⟨rfl,id,rfl⟩
theorem jq(hv:Env.via κ J ρ')(hN:∀p i,κ p=some i->N p->N' i):∀l l',eY κ l=some l'->bG ρ' l'=bG J l/\br ρ' l'=br J l/\(fq N l->fq N' l')/\(qS l->qS l')
 | [],l',h=>by simp only[eY,aa]at h;subst h;exact⟨rfl,rfl,id,id⟩
 |x::l,l',h=>by
  simp only[eY]at h;split at h
  ·rename_i y hy;split at h<;>simp only[aa,reduceCtorEq]at h
   rename_i m hm;subst h;obtain⟨a1,a2,a3⟩:=j8 hv hN x y hy;obtain⟨b1,b2,b3,b4⟩:=jq hv hN l m hm;refine⟨by simp only[bG,a1,b1],by simp only[br,a1,b2],fun hk=>⟨a2 hk.1,b3 hk.2⟩,fun hk=>?_⟩
   rw[eE]at hk⊢;intro z hz;rcases List.mem_cons.1 hz with rfl|hz
   ·rw[a3];exact hk x (by simp)
   ·simp_all[eE]
  ·simp at h
end
theorem nt{κ:Nat->Option Nat}:∀{l l':List V},eY κ l=some l'->l'.length=l.length
 | [],l',h=>by simp only[eY,aa]at h;subst h;rfl
 |x::l,l',h=>by
  simp only[eY]at h;split at h
  ·split at h<;>simp only[aa,reduceCtorEq]at h
   rename_i m hm;subst h;simp[nt hm]
  ·simp at h
def gB(κ:Nat->Option Nat):aS->aS
 | .yet=> .yet
 | .gone=> .gone
 | .blk ty c=>match fP κ c with
   |some c'=> .blk ty c'
   |none=> .gone
 | .arr o e l=> .arr o e l
 | .obs ty q L=>match κ q with
   |some q'=> .obs ty q' L
   |none=> .gone
 | .gen j=>match κ j with
   |some j'=> .gen j'
   |none=> .gone
 | .store ty e L=> .store ty e L
 | .lop r s j=> .lop r s j
 | .dfr=> .dfr
 | .mp k ks vs=>match eY κ vs with
   |some vs'=> .mp k ks vs'
   |none=> .gone
 | .mq ks vs=>match eY κ vs with
   |some vs'=> .mq ks vs'
   |none=> .gone
 | .ms n D=> .ms n D
 | .mi m n S=>match κ m with
   |some m'=> .mi m' n S
   |none=> .gone
 | .que t e l=> .que t e l
 | .cset t e n s D Q=>match fP κ s with
   |some s'=> .cset t e n s' D Q
   |none=> .gone
 | .ro r=> .ro (gB κ r)
theorem mF{r:aS}:gB κ r= .yet↔r= .yet:=by
 cases r<;>simp only[gB]<;>(try split)<;>simp
theorem iN(hv:Env.via κ J ρ')(hN:∀p i,κ p=some i->N p->N' i){p i:Nat}(hp:κ p=some i){w0:World}{F0:Nat->Prop}:∀(r:aS) (fp:Nat->Prop) (w:World),r.holds N J p fp w0 F0 w->(gB κ r).holds N' ρ' i fp w0 F0 w
 | .yet,fp,w,h=>trivial
 | .gone,fp,w,h=>trivial
 | .gen j,fp,w,h=>by simp only[gB];split<;>trivial
 | .blk ty c,fp,w,h=>by
   simp only[gB];split
   ·rename_i c' hc;obtain⟨h1,h2,h3,h4⟩:=h;obtain⟨a,b,d⟩:=j8 hv hN c c' hc;have e:=(hv p i hp).1;exact⟨b h1,by rw[d];exact h2,by rw[e];exact h3,by rw[e];simp only[cells,a];exact h4⟩
   ·trivial
 | .arr o e l,fp,w,h=>by
   obtain⟨e1,e2,e3,e4,e5,e6⟩:=hv p i hp;obtain⟨h1,h2,h3,h4,h5,h6,h7⟩:=h;have hsl:ρ'.sl i=J.sl p:=by simp only[Env.sl,e2,e4,e5]
   refine⟨h1,by rw[e5];exact h2,h3,by rw[e4,e3];exact h4,by rw[e4];exact h5,by rw[e3];exact h6,?_⟩
   rcases h7 with⟨g1,g2,g3⟩|⟨x,g1,g2,g3⟩
   ·refine .inl ⟨g1,by rw[e3];exact g2,fun j hj k hk=>?_⟩
    rw[e3,g3 j hj k hk,dU (N:=fun _=>False) (J:=J) (ρ':=ρ') (fun _ h=>h.elim) _ (h1 j hj).1]
   ·exact .inr ⟨x,g1,by rw[hsl];exact g2,by rw[e4];exact g3⟩
 | .obs ty q L,fp,w,h=>by
   simp only[gB];split
   ·rename_i q' hq;obtain⟨e1,e2,e3,e4,e5,e6⟩:=hv p i hp;obtain⟨h0,h1,h2,h3,h4,h5,h6,h7⟩:=h;have hsl:ρ'.sl i=J.sl p:=by simp only[Env.sl,e2,e4,e5]
    have eq6:=(hv q q' hq).2.2.2.2.2;exact⟨hN q q' hq h0,h1,by rw[e5];exact h2,h3,by rw[e4,e3];exact h4,by rw[e4];exact h5,by rw[hsl,eq6];exact h6,by rw[eq6];exact h7⟩
   ·trivial
 | .store ty e L,fp,w,h=>by
   have e:=(hv p i hp).1;obtain⟨h0,h1,h2,sl,ob,h3,h5,h6,h7⟩:=h;exact⟨by rw[e];exact h0,h1,h2,sl,ob,by rw[e];exact h3,h5,by rw[e];exact h6,by rw[e];exact h7⟩
 | .lop r s j,fp,w,h=>by
   have e:=(hv p i hp).1;exact⟨by rw[e];exact h.1,by rw[e];exact h.2⟩
 | .dfr,fp,w,h=>by
   have e1:=(hv p i hp).2.2.2.2.1;have e2:=(hv p i hp).2.2.2.2.2;exact⟨fun j hj=>by rw[e1]at hj;rw[e2];exact h.1 j hj,by rw[e1,e2];exact h.2⟩
 | .mp k ks vs,fp,w,h=>by
   simp only[gB];split
   ·rename_i vs' hvs;obtain⟨h0,h1,h2,h3,h4,es,cl,h5,h6,h7⟩:=h;obtain⟨a,_,c,d⟩:=jq hv hN vs vs' hvs;have e:=(hv p i hp).1;exact⟨by rw[e];exact h0,c h1,d h2,h3,by rw[nt hvs];exact h4,es,cl,by rw[e];exact h5,h6,by rw[a];exact h7⟩
   ·trivial
 | .mq ks vs,fp,w,h=>by
   simp only[gB];split
   ·rename_i vs' hvs;obtain⟨h0,h1,h2,h4,es,cl,h5,h7⟩:=h;obtain⟨a,_,c,d⟩:=jq hv hN vs vs' hvs;have e:=(hv p i hp).1;exact⟨by rw[e];exact h0,c h1,d h2,by rw[nt hvs];exact h4,es,cl,by rw[e];exact h5,by rw[a];exact h7⟩
   ·trivial
 | .ms n D,fp,w,h=>by
   have e:=(hv p i hp).1;exact⟨by rw[e];exact h.1,h.2.1,by rw[e];exact h.2.2⟩
 | .mi m n S,fp,w,h=>by
   simp only[gB];split
   ·rename_i m' hm;have e:=(hv p i hp).1;exact⟨hN m m' hm h.1,by rw[e];exact h.2.1,by rw[e,(hv m m' hm).1];exact h.2.2⟩
   ·trivial
 | .que t e l,fp,w,h=>by
   obtain⟨h1,h2,h3,h4,h5,h6⟩:=h;obtain⟨a1,a2,a3,a4,a5,a6⟩:=hv p i hp;exact⟨h1,by rw[a5];exact h2,h3,by rw[a4,a3];exact h4,by rw[a4];exact h5,by simp only[Env.sl]at h6⊢;rw[a2,a4,a5];exact h6⟩
 | .cset t e n s D Q,fp,w,h=>by
   simp only[gB];split
   ·rename_i s' hs;obtain⟨h1,h2,h3,h4,h5,h6,m,sl,g1,g2,g3,g4,g5⟩:=h;obtain⟨a,b,d⟩:=j8 hv hN s s' hs;have e:=(hv p i hp).1;exact⟨b h1,by rw[d];exact h2,by rw[e];exact h3,h4,h5,h6,m,sl,by rw[e];simp only[cells,a]at g1⊢;exact g1,by rw[e];exact g2,g3,g4,by rw[e];exact g5⟩
   ·trivial
 | .ro r,fp,w,h=>by
   obtain⟨fp',h1,h2⟩:=h;exact⟨fp',iN hv hN hp r fp' w0 h1,h2⟩
end
def idxOf:List Nat->Nat->Nat->Option Nat
 | [],_,_=>none
 |x::l,n,p=>if x==p then some n else idxOf l (n+1) p
def lL(n:Nat)(l:List Nat)(p:Nat):Option Nat:=if Nat.blt p n then some p else idxOf l n p
def src(n:Nat)(l:List Nat)(i:Nat):Nat:=if i<n then i else l.getD (i-n) i
theorem jj:∀{l:List Nat} {n p i:Nat},idxOf l n p=some i->n<=i/\i<n+l.length/\l[i-n]? =some p
 | [],n,p,i,h=>by simp[idxOf]at h
 |x::l,n,p,i,h=>by
  simp only[idxOf]at h;split at h
  ·simp_all
  ·obtain⟨h1,h2,h3⟩:=jj h;refine⟨by omega,by simp;omega,?_⟩
   rw[show i-n=(i-(n+1))+1 by omega]
   simpa using h3
theorem JZ{n:Nat}{l:List Nat}{p i:Nat}(h:lL n l p=some i):src n l i=p:=by
 unfold lL at h;unfold src;split at h
 ·rename_i hp;simp only[aa]at h;subst h;rw[ar (by simpa using hp)]
 ·obtain⟨h1,h2,h3⟩:=jj h;rw[aq (by omega),an,h3];rfl
def Env.pull(π:Nat->Nat)(J:Env):Env:= {num:=fun i=>J.num (π i),cap:=fun i=>J.cap (π i),adr:=fun i=>J.adr (π i),sa:=fun i=>J.sa (π i),sn:=fun i=>J.sn (π i),ob:=fun i=>J.ob (π i)}
theorem rf{π:Nat->Nat}{κ:Nat->Option Nat}{J:Env}(h:∀p i,κ p=some i->π i=p):Env.via κ J (J.pull π):=fun p i hp=>by
 have:=h p i hp;simp[Env.pull,this]
def oZ(κ:Nat->Option Nat)(all:List aS):Nat->List aS->List aS
 |0,_=> []
 |_+1,[]=> []
 |n+1,r::l=>gB κ r::oZ κ all n l
def gZ(κ:Nat->Option Nat)(all:List aS):List Nat->List aS
 | []=> []
 |p::l=>gB κ (aN all p)::gZ κ all l
def qz(κ:Nat->Option Nat):List S->List S
 | []=> []
 |s::l=>(match s with
  | .v x=>match fP κ x with
    |some y=> .v y
    |none=> .und
  |_=> .und)::qz κ l
def yX(κ:Nat->Option Nat):List (Nat×List V×List V)->Option (List (Nat×List V×List V))
 | []=>some []
 | (f,a,b)::l=>match eY κ a,eY κ b,yX κ l with
   |some a',some b',some m=>some ((f,a',b')::m)
   |_,_,_=>none
def qB:List Nat->Nat->Bool
 | [],_=>false
 |x::l,p=>x==p||qB l p
def jH(n m:Nat):List Nat->Bool
 | []=>true
 |p::l=>Nat.ble n p&&Nat.blt p m&& !qB l p&&jH n m l
def YM(n:Nat)(ext:List Nat)(U:St):Option St:=
 if Nat.ble n U.res.length&&jH n U.res.length ext then
  match yX (lL n ext) U.defs with
  |some ds=>some {slots:=qz (lL n ext) U.slots,res:=oZ (lL n ext) U.res n U.res++gZ (lL n ext) U.res ext,defs:=ds}
  |none=>none
 else none
theorem xD(κ:Nat->Option Nat)(all:List aS):∀(n:Nat) (l:List aS) (i:Nat),n<=l.length->i<n->aN (oZ κ all n l) i=gB κ (aN l i)
 |0,_,i,_,h=>by omega
 |n+1,[],i,h,_=>by simp at h
 |n+1,r::l,0,h,_=>rfl
 |n+1,r::l,i+1,h,hi=>by
  simp_all[oZ,aN,xD]
theorem tA(κ:Nat->Option Nat)(all:List aS):∀(n:Nat) (l:List aS),n<=l.length->(oZ κ all n l).length=n
 |0,_,_=>rfl
 |n+1,[],h=>by simp at h
 |n+1,r::l,h=>by simp[oZ,tA κ all n l (by simpa using h)]
theorem rE(κ:Nat->Option Nat)(all:List aS):∀(l:List Nat) (k:Nat),aN (gZ κ all l) k=match l[k]? with|some p=>gB κ (aN all p)|none=> .yet
 | [],k=>by simp[gZ,aN]
 |p::l,0=>by simp[gZ,aN]
 |p::l,k+1=>by simp[gZ,aN,rE κ all l k]
theorem Jy:∀{l:List Nat} {p:Nat},qB l p=true↔p∈l
 | [],p=>by simp[qB]
 |x::l,p=>by
  simp only[qB,Bool.or_eq_true,ai,Jy (l:=l),List.mem_cons];exact or_congr_left eq_comm
theorem pX{n m:Nat}:∀{l:List Nat},jH n m l=true->(∀p∈l,n<=p/\p<m)/\l.Nodup
 | [],_=>by simp
 |p::l,h=>by
  simp only[jH,af,Nat.ble_eq,Nat.blt_eq,Bool.not_eq_true']at h;obtain⟨⟨⟨h1,h2⟩,h3⟩,h4⟩:=h;obtain⟨a,b⟩:=pX h4;refine⟨fun q hq=>?_,List.nodup_cons.2 ⟨fun hp=>?_,b⟩⟩
  ·grind
  ·rw[<-Jy]at hp;rw[hp]at h3;simp at h3
theorem sj(κ:Nat->Option Nat):∀l:List S,(qz κ l).length=l.length
 | []=>rfl
 |s::l=>by simp[qz,sj κ l]
theorem uL(κ:Nat->Option Nat):∀(l:List S) (t:Nat),cm (qz κ l) t=match cm l t with
  | .v x=>(match fP κ x with|some y=> .v y|none=> .und)
  |_=> .und
 | [],t=>by simp[qz,cm]
 |s::l,0=>by cases s<;>rfl
 |s::l,t+1=>by simp only[qz,cm];exact uL κ l t
theorem L1{κ:Nat->Option Nat}{a a':List V}(h:eY κ a=some a'):(BO a=none/\BO a'=none)\/∃k k',BO a=some k/\κ k=some k'/\BO a'=some k':=by
 match a with
 | []=>simp only[eY,aa]at h;subst h;exact .inl ⟨rfl,rfl⟩
 | [x]=>
   simp only[eY]at h;split at h<;>simp only[aa,reduceCtorEq]at h
   rename_i y hy;subst h
   cases x<;>simp only[fP]at hy<;>(try split at hy)<;>simp only[aa,reduceCtorEq]at hy<;>subst hy<;>first
    |exact .inl ⟨rfl,rfl⟩
    | (rename_i k _ k' hk;exact .inr ⟨k,k',rfl,hk,rfl⟩)
 |x::z::m=>
  have hl:=nt h;match a',hl with
  | [],hl=>simp at hl
  | [_],hl=>simp at hl
  |_::_::_,_=>exact .inl ⟨rfl,rfl⟩
theorem rM{κ:Nat->Option Nat}{J ρ':Env}{N N':Nat->Prop}(hv:Env.via κ J ρ')(hN:∀p i,κ p=some i->N p->N' i):∀(l m:List (Nat×List V×List V)),yX κ l=some m->
  m.flatMap (lO ρ')=l.flatMap (lO J)/\((∀d∈l,fq N d.2.1/\fq N d.2.2)->∀d∈m,fq N' d.2.1/\fq N' d.2.2)
 | [],m,h=>by simp only[yX,aa]at h;subst h;exact⟨rfl,fun _=>by simp⟩
 | (f,a,b)::l,m,h=>by
   simp only[yX]at h;split at h<;>simp only[aa,reduceCtorEq]at h
   rename_i a' b' m' ha hb hm;subst h;obtain⟨a1,_,a3,_⟩:=jq hv hN a a' ha;obtain⟨b1,_,b3,_⟩:=jq hv hN b b' hb;obtain⟨c1,c2⟩:=rM hv hN l m' hm
   have hde:lO ρ' (f,a',b')=lO J (f,a,b):=by
    unfold lO;rcases L1 ha with⟨h1,h2⟩|⟨k,k',h1,h2,h3⟩
    ·simp only[h1,h2,a1,b1]
    ·simp only[h1,h3,(hv k k' h2).2.2.2.2.1,(hv k k' h2).2.2.2.2.2]
   refine⟨by rw[List.flatMap_cons,List.flatMap_cons,hde,c1],fun hk d hd=>?_⟩
   rcases List.mem_cons.1 hd with rfl|hd
   ·have h0:=hk (f,a,b) (by simp)
    exact⟨a3 h0.1,b3 h0.2⟩
   ·exact c2 (fun d hd=>hk d (by simp[hd])) d hd
theorem MN{J:Env}{fps:Nat->Nat->Prop}{w0 w:World}{F0:Nat->Prop}{a:Act}{n:Nat}{ext:List Nat}{U σ':St}(h:YM n ext U=some σ')(hr:lE J fps U w0 F0 a w):
  ∃ρ' fps',lE ρ' fps' σ' w0 F0 a w/\∀i,i<n->ρ'.num i=J.num i/\ρ'.cap i=J.cap i/\ρ'.adr i=J.adr i/\ρ'.sa i=J.sa i/\ρ'.sn i=J.sn i/\ρ'.ob i=J.ob i:=by
 unfold YM at h;split at h
 ·rename_i hc;simp only[af,Nat.ble_eq]at hc;obtain⟨hn,he⟩:=hc;obtain⟨e1,e2⟩:=pX he;split at h<;>simp only[aa,reduceCtorEq]at h
  rename_i ds hds;subst h;obtain⟨r1,r2,r3,r4⟩:=hr;generalize hκ:lL n ext=κ at *
  have hπ:∀p i,κ p=some i->src n ext i=p:=fun p i hp=>by subst hκ;exact JZ hp
  have hv:Env.via κ J (J.pull (src n ext)):=rf hπ
  have hget:∀i,aN (oZ κ U.res n U.res++gZ κ U.res ext) i=if i<n then gB κ (aN U.res i)else match ext[i-n]? with|some p=>gB κ (aN U.res p)|none=> .yet:=fun i=>by
   simp_all[ca,tA,xD,rE]
  have hkn:∀i,known (oZ κ U.res n U.res++gZ κ U.res ext) i->known U.res (src n ext i)/\κ (src n ext i)=some i/\aN (oZ κ U.res n U.res++gZ κ U.res ext) i=gB κ (aN U.res (src n ext i)):=fun i hi=>by
   unfold known at hi;rw[hget]at hi⊢;unfold src;by_cases hin:i<n
   ·rw[ar hin]at hi⊢;rw[ar hin];refine⟨fun e=>hi (mF.2 e),?_,rfl⟩
    subst hκ;unfold lL;rw[ar (by simpa using hin)]
   ·rw[aq hin]at hi⊢;rw[aq hin,an];cases hx:ext[i-n]? with
    |none=>rw[hx]at hi;exact absurd rfl hi
    |some p=>
     rw[hx]at hi;simp only[Option.getD_some];refine⟨fun e=>hi (mF.2 e),?_,trivial⟩
     subst hκ;unfold lL;have hp:=e1 p (List.mem_of_getElem? hx);rw[aq (by simp;omega)]
     have:∀(l:List Nat) (m k:Nat),l.Nodup->l[k]? =some p->idxOf l m p=some (m+k):=by
      intro l;induction l with
      |nil=>intro m k _ h;simp at h
      |cons x l ih=>
       intro m k hnd h;simp only[idxOf];cases k with
       |zero=>simp at h;subst h;simp
       |succ k=>
        simp at h
        have hne:(x==p)=false:=by
         grind
        rw[hne];simp only[Bool.false_eq_true,if_false];rw[ih (m+1) k (List.nodup_cons.1 hnd).2 h];congr 1;omega
     rw[this ext n (i-n) e2 hx];congr 1;omega
  have hN:∀p i,κ p=some i->known U.res p->known (oZ κ U.res n U.res++gZ κ U.res ext) i:=fun p i hp hk=>by
   unfold known;rw[hget];have hs:=hπ p i hp;unfold src at hs;by_cases hin:i<n
   ·rw[ar hin]at hs⊢;subst hs;exact fun e=>hk (mF.1 e)
   ·rw[aq hin]at hs⊢;subst hκ;unfold lL at hp;split at hp
    ·simp only[aa]at hp;rename_i hb;simp at hb;omega
    ·obtain⟨_,_,h3⟩:=jj hp;rw[h3];exact fun e=>hk (mF.1 e)
  refine⟨J.pull (src n ext),fun i=>fps (src n ext i),⟨⟨by simpa[sj]using r1.1,fun t=>?_⟩,?_,?_,?_⟩,fun i hi=>?_⟩
  ·rw[uL];have:=r1.2 t;split
   ·rename_i x hx;rw[hx]at this;split
    ·rename_i y hy;obtain⟨a1,a2,_⟩:=j8 hv hN x y hy;exact⟨this.1.trans a1.symm,a2 this.2⟩
    ·trivial
   ·trivial
  ·refine⟨fun i hi=>hi,r2.old,r2.os,r2.tape,r2.output,fun i hi=>?_,fun i b hi=>r2.lt _ b (hkn i hi).1,fun i j b hi hj hne=>r2.disj _ _ b (hkn i hi).1 (hkn j hj).1 fun e=>hne ?_,fun i b hi=>r2.inF _ b (hkn i hi).1,r2.same⟩
   ·obtain⟨a1,a2,a3⟩:=hkn i hi;rw[a3];exact iN hv hN a2 _ _ _ (r2.holds _ a1)
   ·grind
  ·obtain⟨a1,_⟩:=rM hv hN _ _ hds;rw[r3];exact a1.symm
  ·exact(rM hv hN _ _ hds).2 r4
  ·simp[Env.pull,src,hi]
 ·simp at h
inductive Gh where
 |bl (c ty:Nat)
 |bv (c e esz:Nat) (l:TL)
 |sl (t e esz:Nat) (l:TL)
 |al (t:Nat)
 |ab (c:Nat)
 |li (t:Nat)
 |dm
 |opn (k:Nat)
 |sht (k e:Nat)
def DS:TL->Bool
 | .ob l=>match l with| []=>true|_=>false
 | .key l=>match l with| []=>true|_=>false
 | .it _ l=>match l with| []=>true|_=>false
 | .bo l=>match l with| []=>true|_=>false
 | .st l=>match l with| []=>true|_=>false
 | .qs _ l=>match l with| []=>true|_=>false
 | .fn n _=>Nat.beq n 0
theorem Gw{l:TL}(h:DS l=true):l.len=0/\l.cells= []:=by
 cases l with
 |fn n g=>
  have:=Nat.eq_of_beq_eq_true h;subst this;exact⟨rfl,rfl⟩
 |ob l=>cases l<;>first|exact⟨rfl,rfl⟩|simp[DS]at h
 |key l=>cases l<;>first|exact⟨rfl,rfl⟩|simp[DS]at h
 |it k l=>cases l<;>first|exact⟨rfl,rfl⟩|simp[DS]at h
 |bo l=>cases l<;>first|exact⟨rfl,rfl⟩|simp[DS]at h
 |st l=>cases l<;>first|exact⟨rfl,rfl⟩|simp[DS]at h
 |qs n l=>cases l<;>first|exact⟨rfl,rfl⟩|simp[DS]at h
def asV(v:V):Option (Nat×IntKind×Int):=
 match v with
 | .ag l=>match l with
   | [x,y]=>match x with
     | .sa k=>match y with
       | .it q n=>some (k,q,n)
       |_=>none
     |_=>none
   |_=>none
 |_=>none
theorem P6{v:V}{k:Nat}{q:IntKind}{n:Int}(h:asV v=some (k,q,n)):v= .ag [.sa k,.it q n]:=by
 unfold asV at h;split at h
 case h_2=>simp at h
 split at h
 case h_2=>simp at h
 split at h
 case h_2=>simp at h
 split at h
 case h_2=>simp at h
 simp only[aa,ae]at h;obtain⟨rfl,rfl,rfl⟩:=h;rfl
def BL(res:List aS)(k:Nat):Option (List aS):=
 match aN res k with
 | .cset t e n sv D Q=>some (bR res k (.blk t (.ag [sv,.mp res.length,.sa (res.length+1)]))++ [.ms n D,.que e n Q])
 |_=>none
def xG(res:List aS)(k e:Nat):Option (List aS):=
 match aN res k with
 | .blk t c=>match c with
   | .ag l=>match l with
     | [sv,m,x]=>match m with
       | .mp m=>match aN res m with
         | .ms n D=>match x with
           | .nl v=>match v with
             | .slice a b c=>match a with
               |none=>if b==0&&c==0 then some (bR (bR res m .gone) k (.cset t e n sv D []))else none
               |some _=>none
             |_=>none
           | .sa q=>match aN res q with
             | .que e' n' Q=>if n'==n&&e'==e then some (bR (bR (bR res m .gone) q .gone) k (.cset t e n sv D Q))else none
             |_=>none
           |_=>none
         |_=>none
       |_=>none
     |_=>none
   |_=>none
 |_=>none
def Ix(U:St):Gh->Option St
 | .bl c ty=>match aN U.res c with
   | .blk t (.ag [.nl (.slice none 0 0)])=>some {U with res:=bR U.res c (.blk t (.ag [.sa U.res.length]))++ [.obs ty (U.res.length+1) [],.gen U.res.length]}
   |_=>none
 | .bv c e esz l=>match aN U.res c with
   | .blk t (.nl (.slice none 0 0))=>if DS l then some {U with res:=bR U.res c (.blk t (.sa U.res.length))++ [.arr (some e) esz l]}else none
   |_=>none
 | .sl t e esz l=>match cm U.slots t with
   | .v (.nl (.slice none 0 0))=>if DS l then some {U with slots:=sset (clean U.slots) t (.v (.sa U.res.length)),res:=U.res++ [.arr (some e) esz l]}else none
   |_=>none
 | .al t=>match cm U.slots t with
   | .v (.sa k)=>match aN U.res k with
     | .ro r=>match r with
       | .arr _ esz l=>some {U with slots:=sset (clean U.slots) t (.v (.sa U.res.length)),res:=U.res++ [.arr none esz l]}
       |_=>none
     | .arr own esz l=>some {U with slots:=sset (clean U.slots) t (.v (.sa U.res.length)),res:=cA [k] U.res++ [.arr own esz l]}
     |_=>none
   |_=>none
 | .ab c=>match aN U.res c with
   | .blk t v=>match asV v with
     |some (k,q,n)=>match aN U.res k with
      | .ro r=>match r with
        | .arr _ esz l=>some {U with res:=bR U.res c (.blk t (.ag [.sa U.res.length,.it q n]))++ [.arr none esz l]}
        |_=>none
      |_=>none
     |none=>none
   |_=>none
 | .li t=>match cm U.slots t with
   | .v v=>match v with
     | .sc k n c=>match aN U.res k with
       | .blk e x=>match Ml x with
         |some L=>if n==L.length&&c==n&&Nat.ble n 1000 then some {U with slots:=sset (clean U.slots) t (.v (.sa U.res.length)),res:=cA [k] U.res++ [.arr (some e) 163 (.ob L)]}else none
         |none=>none
       |_=>none
     |_=>none
   |_=>none
 | .opn k=>match BL U.res k with
   |some r=>some {U with slots:=clean U.slots,res:=r}
   |none=>none
 | .sht k e=>match xG U.res k e with
   |some r=>some {U with slots:=clean U.slots,res:=r}
   |none=>none
 | .dm=>some {U with res:=U.res++ [.dfr],defs:=(0,[.yl U.res.length],[])::U.defs}
def sg:List Gh->St->Option St
 | [],U=>some U
 |g::l,U=>match Ix U g with
  |some σ'=>sg l σ'
  |none=>none
def Env.eJ(J:Env)(i:Nat):Env:= {J with cap:=fun j=>if j=i then 0 else J.cap j,sa:=fun j=>if j=i then none else J.sa j,sn:=fun j=>if j=i then 0 else J.sn j}
theorem vK{N:Nat->Prop}{J:Env}{i:Nat}(h:¬N i):Env.agree N J (J.eJ i):=fun j hj=>by
 have:j≠i:=fun e=>h (e▸hj)
 simp[Env.eJ,this]
def Env.jd(J:Env)(i k:Nat):Env:= {J with cap:=fun j=>if j=i then J.cap k else J.cap j,adr:=fun j=>if j=i then J.adr k else J.adr j,sa:=fun j=>if j=i then J.sa k else J.sa j,sn:=fun j=>if j=i then J.sn k else J.sn j}
theorem rq{N:Nat->Prop}{J:Env}{i k:Nat}(h:¬N i):Env.agree N J (J.jd i k):=fun j hj=>by
 have:j≠i:=fun e=>h (e▸hj)
 simp[Env.jd,this]
theorem PJ{K K':Nat->Prop}{J:Env}{i:Nat}{fp fp2:Nat->Prop}{w0 w:World}{F0:Nat->Prop}{own:Option Nat}{esz:Nat}{l:TL}(h:(aS.ro (.arr own esz l)).holds K J i fp w0 F0 w):(aS.arr none esz l).holds K' J i fp2 w0 F0 w:=by
 obtain⟨fp',⟨h1,h2,h3,h4,h5,h6,h7⟩,hf⟩:=h;refine⟨h1,h2,h3,h4,h5,h6,.inl ⟨rfl,?_⟩⟩;rcases h7 with⟨_,h7⟩|⟨e,_,e2,e3⟩
 ·exact h7
 ·refine⟨fun hl=>?_,fun j hj k hk=>?_⟩
  ·grind[nA]
  ·obtain⟨g,f1,f2,f3,f4⟩:=nA e2 (by omega)
   have ha:=h4 _ f1;rw[<-ha];simp only[Nat.zero_add]
   have hlt:j*esz+k<l.len*esz:=by
    have:(j+1)*esz<=l.len*esz:=Nat.mul_le_mul_right _ hj;rw[Nat.succ_mul]at this;omega
   rw[f4 _ hlt];unfold TL.cells;rw[vh (esz:=esz) (fun j hj=>by rw[bw Env.zero _ (h1 j hj).1];exact(h1 j hj).2.2) hj hk]
   rw[dU (N:=fun _=>False) (J:=J) (ρ':=Env.zero) (fun _ h=>h.elim) _ (h1 j hj).1]
theorem Ob{K K':Nat->Prop}{J:Env}{i k:Nat}{w0 w:World}{F0:Nat->Prop}{esz:Nat}{l:TL}(h:(aS.arr none esz l).holds K J k (fun _=>False) w0 F0 w):(aS.arr none esz l).holds K' (J.jd i k) i (fun _=>False) w0 F0 w:=by
 obtain⟨a1,a2,a3,a4,a5,a6,a7⟩:=h;have e1:(J.jd i k).adr i=J.adr k:=by simp[Env.jd]
 have e2:(J.jd i k).sa i=J.sa k:=by simp[Env.jd]
 have e3:(J.jd i k).sn i=J.sn k:=by simp[Env.jd]
 refine⟨a1,by rw[e3];exact a2,a3,by rw[e1,e2];exact a4,by rw[e2];exact a5,by rw[e1];exact a6,?_⟩
 rcases a7 with⟨_,b1,b2⟩|⟨e,_,_,b3⟩
 ·refine .inl ⟨rfl,by rw[e1];exact b1,fun j hj x hx=>?_⟩
  rw[e1,b2 j hj x hx,dU (N:=fun _=>False) (J:=J) (ρ':=J.jd i k) (fun _ h=>h.elim) _ (a1 j hj).1]
 ·by_cases hl:0<l.len
  ·have:=a5 hl;cases hs:J.sa k with
   |none=>rw[hs]at this;simp at this
   |some x=>exact(b3 x hs).elim
  ·exact .inl ⟨rfl,fun h=>absurd h hl,fun j hj=>absurd (Nat.lt_of_le_of_lt (Nat.zero_le _) hj) hl⟩
theorem Uj{J:Env}{fps:Nat->Nat->Prop}{w0:World}{F0:Nat->Prop}{w:World}{res:List aS}{k esz:Nat}{own:Option Nat}{l:TL}(h:bp J fps res (known res) w0 F0 w)(hrk:aN res k= .arr own esz l):
  ∃fps',bp (J.jd res.length k) fps' (cA [k] res++ [.arr own esz l]) (known (cA [k] res++ [.arr own esz l])) w0 F0 w/\Env.agree (known res) J (J.jd res.length k)/\(∀i,known res i->known (cA [k] res++ [.arr own esz l]) i)/\known (cA [k] res++ [.arr own esz l]) res.length:=by
 have hkk:known res k:=by unfold known;rw[hrk];simp
 have hn:¬known res res.length:=by
  simp_all[known,nu]
 have hh:=h.holds k hkk;rw[hrk]at hh;obtain⟨a1,a2,a3,a4,a5,a6,a7⟩:=hh;have e1:(J.jd res.length k).adr res.length=J.adr k:=by simp[Env.jd]
 have e2:(J.jd res.length k).sa res.length=J.sa k:=by simp[Env.jd]
 have e3:(J.jd res.length k).sn res.length=J.sn k:=by simp[Env.jd]
 have e4:(J.jd res.length k).sl res.length=J.sl k:=by simp[Env.jd,Env.sl]
 refine h.pb [k] (.arr own esz l) [] (fps k) (by simp) (by simpa using hkk) (by simp) (rq hn) ?_ (fun b hb=> .inl ⟨k,by simp,hb⟩) rfl rfl rfl (Nat.le_refl _) (fun b _ _=>rfl)
 refine⟨a1,by rw[e3];exact a2,a3,by rw[e1,e2];exact a4,by rw[e2];exact a5,by rw[e1];exact a6,?_⟩
 rcases a7 with⟨b0,b1,b2⟩|⟨e,b1,b2,b3⟩
 ·refine .inl ⟨b0,by rw[e1];exact b1,fun j hj x hx=>?_⟩
  rw[e1,b2 j hj x hx,dU (N:=fun _=>False) (J:=J) (ρ':=J.jd res.length k) (fun _ h=>h.elim) _ (a1 j hj).1]
 ·exact .inr ⟨e,b1,by rw[e4];exact b2,by rw[e2];exact b3⟩
theorem qx{J:Env}{i:Nat}:den (J.eJ i) (.sa i)= .slice none 0 0:=by simp[den,Env.eJ]
section
variable {J:Env} {fps:Nat->Nat->Prop} {w0 w:World} {F0:Nat->Prop} {a:Act}
theorem bp.beside{res:List aS}(h:bp J fps res (known res) w0 F0 w){ρ':Env}(hag:Env.agree (known res) J ρ')(res1 new:List aS)(hl:res1.length=res.length)
  (h1:∀i,i<res.length->aN res1 i=aN res i\/(known res i/\known res1 i/\(aN res1 i).holds (known (res1++new)) ρ' i (fps i) w0 F0 w))
  (h2:∀k,k<new.length->(aN new k).holds (known (res1++new)) ρ' (res.length+k) (fun _=>False) w0 F0 w):
  ∃fps',bp ρ' fps' (res1++new) (known (res1++new)) w0 F0 w/\Env.agree (known res) J ρ'/\∀i,known res i->known (res1++new) i:=by
 have hget:∀i,aN (res1++new) i=if i<res.length then aN res1 i else aN new (i-res.length):=fun i=>by rw[ca,hl]
 have hmono:∀i,known res i->known (res1++new) i:=fun i hi=>by
  grind[aY,known]
 obtain⟨fps',g⟩:=h.turn (res':=res1++new) (K':=known (res1++new)) (fun i=>known res i/\known res1 i/\(aN res1 i).holds (known (res1++new)) ρ' i (fps i) w0 F0 w)
  (fun i=>(known res i/\known res1 i/\(aN res1 i).holds (known (res1++new)) ρ' i (fps i) w0 F0 w)\/res.length<=i) (fun i b=>i<res.length/\fps i b/\known res i) (fun i hi=>hi) hmono hag
  (fun i hi hb=>by
   have hlt:i<res.length:=by
    rcases Nat.lt_or_ge i res.length with h|h
    ·exact h
    ·exact absurd (.inr h) hb
   have hno:=fun h=>hb (.inl h)
   rcases h1 i hlt with e|e
   ·have e2:aN (res1++new) i=aN res i:=by rw[hget,ar hlt,e]
    exact⟨by unfold known at hi⊢;rw[e2]at hi;exact hi,hno,e2⟩
   ·exact absurd e hno)
  (fun i hi hb=>by
   by_cases hlt:i<res.length
   ·rcases hb with⟨b1,b2,b3⟩|hb
    ·refine⟨?_,fun b hf=> .inl ⟨i,⟨b1,b2,b3⟩,b1,hf.2.1⟩⟩
     rw[hget,ar hlt];have:(fun b=>i<res.length/\fps i b/\known res i)=fps i:=by funext b;simp[hlt,b1]
     rw[this];exact b3
    ·omega
   ·refine⟨?_,fun b hf=>absurd hf.1 hlt⟩
    rw[hget,aq hlt];have:(fun b=>i<res.length/\fps i b/\known res i)=fun _=>False:=by funext b;simp[hlt]
    rw[this]
    have hk:i-res.length<new.length:=by
     unfold known at hi;rw[hget,aq hlt]at hi;exact aY hi
    have:=h2 (i-res.length) hk;rw[show res.length+(i-res.length)=i by omega]at this
    exact this)
  (fun i j b _ _ hne hf hf'=>h.disj i j b hf.2.2 hf'.2.2 hne hf.2.1 hf'.2.1) rfl rfl rfl (Nat.le_refl _) (fun _ _ _=>rfl)
 exact⟨fps',g,hag,hmono⟩
theorem FW{res:List aS}{k n e:Nat}{x:V}{L:List Obj}(hH:bp J fps res (known res) w0 F0 w)(hr:aN res k= .blk e x)(hl:Ml x=some L)(hn:n=L.length)(hs:n<=1000):
  ∃fps',bp (J.gj res.length (some ⟨J.num k,0,none⟩) n n) fps' (cA [k] res++ [.arr (some e) 163 (.ob L)]) (known (cA [k] res++ [.arr (some e) 163 (.ob L)])) w0 F0 w/\Env.agree (known res) J (J.gj res.length (some ⟨J.num k,0,none⟩) n n)/\
   (∀i,known res i->known (cA [k] res++ [.arr (some e) 163 (.ob L)]) i)/\known (cA [k] res++ [.arr (some e) 163 (.ob L)]) res.length:=by
 have hk:known res k:=by unfold known;rw[hr];simp
 have hh:=hH.holds k hk;rw[hr]at hh;obtain⟨h1,_,h3,h4⟩:=hh;obtain⟨hcells,hwf⟩:=Mj hl h1;have hcells:=hcells J;have hnk:¬known res res.length:=fun hk=>by have:=aY hk;omega
 have hlen:(TL.ob L).cells.length=n*163:=by
  unfold TL.cells;rw[hn]
  exact FY fun j hj=>by
   rw[show(TL.ob L).get j=V.ob (aL L j free)from rfl,j6];exact nU _
 have hag:=pR (N:=known res) J (i:=res.length) (a:=some ⟨J.num k,0,none⟩) (n:=n) (cap:=n) hnk
 exact hH.pb (ρ':=J.gj res.length (some ⟨J.num k,0,none⟩) n n) (w':=w) [k] (.arr (some e) 163 (.ob L)) [] (fun x=>x=J.num k) (by simp) (by simpa using hk) (by simp) hag
  (by
   refine⟨fun j hj=>⟨hwf j hj,rfl,rfl⟩,by simp[Env.gj,TL.len,hn,aK],by simp only[TL.len,aK];omega,fun a ha=>by simp[Env.gj]at ha⊢;exact ha.symm,fun _=>by simp[Env.gj],fun _=>by simp[Env.gj],.inr ⟨e,fun e' he=>by simpa using he.symm,?_,fun a ha=>by simp[Env.gj]at ha;rw[<-ha]⟩⟩
   rw[show(J.gj res.length (some ⟨J.num k,0,none⟩) n n).sl res.length= .slice (some ⟨J.num k,0,none⟩) n n by simp[Env.sl,Env.gj]]
   rw[hcells]at h4;refine⟨by rw[hlen,hn];rfl,.inr ⟨_,_,_,by rw[hn];rfl,Nat.zero_le _,h4,by rw[show(TL.ob L).len=L.length from rfl];exact Nat.le_refl _,by simp only[maxLen];rw[<-hn];omega,by rw[<-hn];simpa using hlen,?_⟩⟩
   have hh:(TL.ob L).len*163=n*163:=by rw[hn];rfl
   rw[hh];exact List.take_of_length_le (by simpa using Nat.le_of_eq hlen))
  (fun x hx=> .inl ⟨k,by simp,by rw[hx];exact h3⟩) rfl rfl rfl (Nat.le_refl _) (fun _ _ _=>rfl)
def Env.pI(J:Env)(n m:Nat)(a:Option Addr)(sn cap:Nat):Env:=
 {num:=fun j=>if j=n then m else J.num j,cap:=fun j=>if j=n+1 then cap else J.cap j,adr:=fun j=>if j=n+1 then a.getD ⟨0,0,none⟩else J.adr j,sa:=fun j=>if j=n+1 then a else J.sa j,sn:=fun j=>if j=n+1 then sn else J.sn j,ob:=J.ob}
theorem Fs{N:Nat->Prop}{J:Env}{n m:Nat}{a:Option Addr}{sn cap:Nat}(h:¬N n)(h':¬N (n+1)):Env.agree N J (J.pI n m a sn cap):=fun j hj=>by
 have h1:j≠n:=fun e=>h (e▸hj)
 have h2:j≠n+1:=fun e=>h' (e▸hj)
 simp[Env.pI,h1,h2]
theorem CC{J:Env}{fps:Nat->Nat->Prop}{res res':List aS}{k:Nat}{w0 w:World}{F0:Nat->Prop}(ho:BL res k=some res')(hH:bp J fps res (known res) w0 F0 w):
  ∃ρ' fps',bp ρ' fps' res' (known res') w0 F0 w/\Good J res ρ' res':=by
 unfold BL at ho;split at ho<;>simp only[aa,reduceCtorEq]at ho
 rename_i t e n sv D Q hr;have hk:known res k:=by unfold known;rw[hr];simp
 have hlt:=aY hk;have hh:=hH.holds k hk;rw[hr]at hh;obtain⟨h1,h2,h3,h4,h5,h6,m,sl,g1,g2,g3,g4,g5⟩:=hh;obtain⟨a,cap,rfl,q1,q2⟩:=Ci g4;have hnk:¬known res res.length:=fun hk=>by have:=aY hk;omega
 have hnk':¬known res (res.length+1):=fun hk=>by have:=aY hk;omega
 have hget:∀i,aN res' i=if i<res.length then(if i=k then .blk t (.ag [sv,.mp res.length,.sa (res.length+1)])else aN res i)else if i=res.length then .ms n D else if i=res.length+1 then .que e n Q else .yet:=fun i=>by
  subst ho;rw[ca,bX];by_cases hi:i<res.length
  ·rw[ar hi,ar hi,bI _ _ _ _ hlt]
  ·rw[aq hi,aq hi];by_cases e:i=res.length
   ·subst e;simp[aN]
   ·rw[aq e];by_cases e1:i=res.length+1
    ·simp_all[aN]
    ·rw[aq e1];obtain⟨m,hm⟩:∃m,i-res.length=m+2:=⟨i-res.length-2,by omega⟩
     rw[hm];simp[aN]
 have k1:known res' res.length:=by unfold known;rw[hget,aq (by omega),ar rfl];simp
 have k2:known res' (res.length+1):=by unfold known;rw[hget,aq (by omega),aq (by omega),ar rfl];simp
 have hmono:∀i,known res i->known res' i:=fun i hi=>by
  unfold known;rw[hget,ar (aY hi)];split
  ·simp
  ·exact hi
 have hag:=Fs (J:=J) (m:=m) (a:=a) (sn:=Q.length) (cap:=cap) hnk hnk'
 obtain⟨fps',g⟩:=hH.turn (res':=res') (K':=known res') (fun i=>i=k) (fun i=>i=k\/res.length<=i) (fun i b=>(i=k/\b=J.num k)\/(i=res.length/\b=m)\/(i=res.length+1/\(Value.slice a Q.length cap).ownBlock=some b))
  (fun i hi=>hi) hmono hag
  (fun i hi hb=>by
   have h1:i≠k:=fun e=>hb (.inl e)
   have h2:i<res.length:=by
    rcases Nat.lt_or_ge i res.length with h|h
    ·exact h
    ·exact absurd (.inr h) hb
   have e:aN res' i=aN res i:=by rw[hget,ar h2,aq h1]
   exact⟨by unfold known at hi⊢;rw[e]at hi;exact hi,h1,e⟩)
  (fun i hi hb=>by
   have hi':=hi;unfold known at hi';by_cases e1:i=k
   ·subst e1;refine⟨?_,fun b hf=> .inl ⟨i,rfl,hk,?_⟩⟩
    ·rw[hget,ar hlt,ar rfl];refine⟨⟨⟨dt hmono _ h1,k1,k2,trivial⟩,?_⟩,rfl,.inl ⟨rfl,(hag i hk).1⟩,?_⟩
     ·exact⟨by cases sv<;>first|trivial|simp[cE]at h2,trivial,trivial,trivial⟩
     ·rw[(hag i hk).1,g1,dF];have e1:(den (J.pI res.length m a Q.length cap) sv).cells.toList=cells J sv:=(dU hag sv h1);have e2:den (J.pI res.length m a Q.length cap) (.mp res.length)= .map (some m):=by simp[den,Env.pI]
      have e3:den (J.pI res.length m a Q.length cap) (.sa (res.length+1))= .slice a Q.length cap:=by simp[den,Env.pI]
      simp only[br,e1,e2,e3,List.append_nil];rfl
    ·rcases hf with⟨_,rfl⟩|⟨e,_⟩|⟨e,_⟩
     ·exact h3
     ·omega
     ·omega
   ·by_cases e2:i=res.length
    ·subst e2;refine⟨?_,fun b hf=> .inl ⟨k,rfl,hk,?_⟩⟩
     ·rw[hget,aq (by omega),ar rfl]
      have e:(J.pI res.length m a Q.length cap).num res.length=m:=by simp[Env.pI]
      exact⟨.inr (.inl ⟨rfl,e⟩),h4,by rw[e];exact g3⟩
     ·rcases hf with⟨e,_⟩|⟨_,rfl⟩|⟨e,_⟩
      ·omega
      ·exact g2.1
      ·omega
    ·have e3:i=res.length+1:=by
      rcases hb with hb|hb
      ·exact absurd hb e1
      ·apply Classical.byContradiction
       intro e3;rw[hget,aq (by omega),aq e2,aq e3]at hi'
       exact hi' rfl
     subst e3;refine⟨?_,fun b hf=> .inl ⟨k,rfl,hk,?_⟩⟩
     ·rw[hget,aq (by omega),aq (by omega),ar rfl]
      refine⟨h5,by simp[Env.pI],h6,fun x hx=>?_,fun h=>by simpa[Env.pI]using q2 h,by simpa[Env.sl,Env.pI]using g4⟩
      simp only[Env.pI,if_true]at hx⊢;subst hx;exact⟨rfl,(q1 x rfl).1,.inr (.inr ⟨trivial,(q1 x rfl).2⟩)⟩
     ·rcases hf with⟨e,_⟩|⟨e,_⟩|⟨_,hb⟩
      ·omega
      ·omega
      ·exact(g5 b hb).1)
  (fun i j b _ _ hne hf hf'=>by
   rcases hf with⟨rfl,rfl⟩|⟨rfl,rfl⟩|⟨rfl,hb⟩<;>rcases hf' with⟨rfl,h3⟩|⟨rfl,h3⟩|⟨rfl,hb'⟩
   ·exact hne rfl
   ·exact g2.2 h3.symm
   ·exact(g5 _ hb').2.1 rfl
   ·exact g2.2 h3
   ·exact hne rfl
   ·exact(g5 _ hb').2.2 rfl
   ·exact(g5 _ hb).2.1 h3
   ·exact(g5 _ hb).2.2 h3
   ·exact hne rfl)
  rfl rfl rfl (Nat.le_refl _) (fun _ _ _=>rfl)
 exact⟨_,fps',g,hag,hmono⟩
theorem CJ{J:Env}{fps:Nat->Nat->Prop}{r r':List aS}{w0 w:World}{F0:Nat->Prop}{k e:Nat}(hs:xG r k e=some r')(h:bp J fps r (known r) w0 F0 w):
  ∃fps',bp J fps' r' (known r') w0 F0 w/\∀i,known r i->known r' i:=by
 have main:∀(t m n:Nat) (sv x:V) (D:List (List Int×Int)) (Q:List (List Int)) (q:Option Nat),aN r k= .blk t (.ag [sv,.mp m,x])->aN r m= .ms n D->(∀q',q=some q'->x= .sa q'/\aN r q'= .que e n Q)->(q=none->x= .nl (.slice none 0 0)/\Q= [])->
   (∀i,aN r' i=if i=k then .cset t e n sv D Q else if some i=q then .gone else if i=m then .gone else aN r i)->∃fps',bp J fps' r' (known r') w0 F0 w/\∀i,known r i->known r' i:=by
  intro t m n sv x D Q q hrk hrm hq hq0 hget;have hkk:known r k:=by unfold known;rw[hrk];simp
  have hkm:known r m:=by unfold known;rw[hrm];simp
  have hmk:m≠k:=fun e=>by rw[e,hrk]at hrm;simp at hrm
  have hqk:∀q',q=some q'->known r q'/\q'≠k/\q'≠m:=fun q' e=>by
   have:=(hq q' e).2;refine⟨by unfold known;rw[this];simp,fun e=>?_,fun e=>?_⟩
   ·rw[e,hrk]at this;simp at this
   ·rw[e,hrm]at this;simp at this
  have hmono:∀i,known r i->known r' i:=fun i hi=>by
   unfold known;rw[hget];split
   ·simp
   ·split
    ·simp
    ·split
     ·simp
     ·exact hi
  have hk1:=h.holds k hkk;rw[hrk]at hk1;obtain⟨b1,b2,b3,b4⟩:=hk1;have hm1:=h.holds m hkm;rw[hrm]at hm1;obtain⟨c1,c2,c3⟩:=hm1
  have hQ:Mx n Q/\Q.length<=9223372036854775807/\∃sl:Value,den J x=sl/\sl.cells.toList= [sl]/\xR w e n sl Q.length (jh Q)/\∀b,sl.ownBlock=some b->∃q',q=some q'/\fps q' b:=by
   cases hqq:q with
   |none=>
    obtain⟨rfl,rfl⟩:=hq0 hqq;exact⟨fun _ h=>by simp at h,by simp,.slice none 0 0,rfl,rfl,⟨by simp[jh],.inl ⟨rfl,rfl⟩⟩,fun b hb=>by simp[Value.ownBlock]at hb⟩
   |some q'=>
    obtain⟨rfl,hrq⟩:=hq q' hqq;have hq1:=h.holds q' (hqk q' hqq).1;rw[hrq]at hq1;obtain⟨d1,d2,d3,d4,d5,d6⟩:=hq1;refine⟨d1,d3,J.sl q',rfl,rfl,d6,fun b hb=>⟨q',rfl,?_⟩⟩
    cases ha:J.sa q' with
    |none=>simp[Env.sl,ha,Value.ownBlock]at hb
    |some a=>
     simp only[Env.sl,ha,Value.ownBlock,aa]at hb;subst hb;exact(d4 a ha).2.2
  obtain⟨x1,x2,sl,x3,x3',x4,x5⟩:=hQ
  obtain⟨fps',g⟩:=h.turn (res':=r') (K':=known r') (fun i=>i=k\/i=m\/some i=q) (fun i=>i=k\/i=m\/some i=q) (fun i b=>i=k/\(fps k b\/fps m b\/∃q',q=some q'/\fps q' b)) (fun i hi=>hi) hmono (Env.agree.refl _ _)
   (fun i hi hb=>by
    have h1:i≠k:=fun e=>hb (.inl e)
    have h2:i≠m:=fun e=>hb (.inr (.inl e))
    have h3:some i≠q:=fun e=>hb (.inr (.inr e))
    have e:aN r' i=aN r i:=by rw[hget,aq h1,aq h3,aq h2]
    exact⟨by unfold known at hi⊢;rw[e]at hi;exact hi,hb,e⟩)
   (fun i hi hb=>by
    by_cases e1:i=k
    ·subst e1;refine⟨?_,fun b hf=>?_⟩
     ·rw[hget,ar rfl];refine⟨dt hmono _ b1.1.1,?_,⟨rfl,.inl b3⟩,c2,x1,x2,J.num m,sl,?_,⟨⟨rfl,.inr (.inl c1)⟩,fun e=>h.disj m i _ hkm hkk hmk c1 (e▸b3)⟩,c3,x4,fun b hb=>?_⟩
      ·have:=b1.2;cases sv<;>first|rfl|exact absurd this.1 (by simp[qS])
      ·rw[b4,dF];have e2:den J (.mp m)= .map (some (J.num m)):=rfl;simp only[br,e2,x3,x3',List.append_nil];rfl
      ·obtain⟨q',e,hf⟩:=x5 b hb;obtain⟨p1,p2,p3⟩:=hqk q' e;exact⟨⟨rfl,.inr (.inr ⟨q',e,hf⟩)⟩,fun e=>h.disj q' i b p1 hkk p2 hf (e▸b3),fun e=>h.disj q' m b p1 hkm p3 hf (e▸c1)⟩
     ·rcases hf.2 with hf|hf|⟨q',e,hf⟩
      ·exact .inl ⟨i,.inl rfl,hkk,hf⟩
      ·exact .inl ⟨m,.inr (.inl rfl),hkm,hf⟩
      ·exact .inl ⟨q',.inr (.inr e.symm),(hqk q' e).1,hf⟩
    ·refine⟨?_,fun b hf=>absurd hf.1 e1⟩
     rw[hget,aq e1];split
     ·trivial
     ·rename_i hn;split
      ·trivial
      ·rename_i hn';rcases hb with hb|hb|hb
       ·exact absurd hb e1
       ·exact absurd hb hn'
       ·exact absurd hb hn)
   (fun i j b _ _ hne' hf hf'=>hne' (hf.1.trans hf'.1.symm))
   rfl rfl rfl (Nat.le_refl _) (fun _ _ _=>rfl)
  exact⟨fps',g,hmono⟩
 unfold xG at hs;split at hs
 case h_2=>simp at hs
 rename_i t c hrk;split at hs
 case h_2=>simp at hs
 rename_i l;split at hs
 case h_2=>simp at hs
 rename_i sv m' x;split at hs
 case h_2=>simp at hs
 rename_i m;split at hs
 case h_2=>simp at hs
 rename_i n D hrm;have hlk:k<r.length:=aY (by rw[hrk];simp)
 have hlm:m<r.length:=aY (by rw[hrm];simp)
 split at hs
 case h_3=>simp at hs
 ·rename_i v;split at hs
  case h_2=>simp at hs
  rename_i a b c;split at hs
  case h_2=>simp at hs
  split at hs<;>simp only[aa,reduceCtorEq]at hs
  rename_i hc;simp only[af,ai]at hc;obtain⟨rfl,rfl⟩:=hc;refine main t m n sv _ D [] none hrk hrm (by simp) (fun _=>⟨rfl,rfl⟩) fun i=>?_
  subst hs;rw[bI _ _ _ _ (by rw[bX];exact hlk),bI _ _ _ _ hlm]
  simp
 ·rename_i q;split at hs
  case h_2=>simp at hs
  rename_i e' n' Q hrq;split at hs<;>simp only[aa,reduceCtorEq]at hs
  rename_i hc;simp only[af,ai]at hc;obtain⟨rfl,rfl⟩:=hc;have hlq:q<r.length:=aY (by rw[hrq];simp)
  refine main t m n' sv _ D Q (some q) hrk hrm (fun q' e=>by simp only[aa]at e;subst e;exact⟨rfl,hrq⟩) (by simp) fun i=>?_
  subst hs;rw[bI _ _ _ _ (by rw[bX,bX];exact hlk),bI _ _ _ _ (by rw[bX];exact hlq),bI _ _ _ _ hlm]
  simp
theorem G8{U σ':St}{g:Gh}(h:Ix U g=some σ')(hr:lE J fps U w0 F0 a w):∃ρ' fps',lE ρ' fps' σ' w0 F0 a w/\Good J U.res ρ' σ'.res:=by
 have hnk:¬known U.res U.res.length:=fun hk=>by have:=aY hk;omega
 have hag:Env.agree (known U.res) J (J.eJ U.res.length):=vK hnk;have hr0:=hr;obtain⟨r1,r2,r3,r4⟩:=hr;have cell1:∀(l:List V),br (J.eJ U.res.length) l=br (J.eJ U.res.length) l:=fun _=>rfl
 unfold Ix at h;split at h
 ·rename_i c ty;split at h<;>simp only[aa,reduceCtorEq]at h
  rename_i t hc;subst h;have hkc:known U.res c:=by unfold known;rw[hc];simp
  have hlt:=aY hkc;have hh:=r2.holds c hkc;rw[hc]at hh;obtain⟨_,_,h3,h4⟩:=hh
  have hkn:known (bR U.res c (.blk t (.ag [.sa U.res.length]))++ [.obs ty (U.res.length+1) [],.gen U.res.length]) U.res.length:=by
   simp_all[known,ca,bX,aN]
  have hkn':known (bR U.res c (.blk t (.ag [.sa U.res.length]))++ [.obs ty (U.res.length+1) [],.gen U.res.length]) (U.res.length+1):=by
   unfold known;rw[ca,bX,aq (by omega),show U.res.length+1-U.res.length=1 by omega];simp[aN]
  obtain⟨fps',g1,g2,g3⟩:=r2.beside hag (bR U.res c (.blk t (.ag [.sa U.res.length]))) [.obs ty (U.res.length+1) [],.gen U.res.length] (bX _ _ _)
   (fun i hi=>by
    rw[bI _ _ _ _ hlt];by_cases e:i=c
    ·subst e;refine .inr ⟨hkc,by unfold known;rw[bI _ _ _ _ hlt];simp,?_⟩
     simp only[if_true];refine⟨⟨⟨hkn,trivial⟩,trivial,trivial⟩,rfl,by rw[(hag i hkc).1];exact h3,?_⟩
     rw[(hag i hkc).1,h4];rw[dF,dF];simp only[br,qx];rfl
    ·exact .inl (by rw[aq e]))
   (fun k hk=>by
    have:k=0\/k=1:=by simp at hk;omega
    rcases this with rfl|rfl
    ·simp only[Nat.add_zero];refine⟨hkn',by simp,by simp[Env.eJ],by simp,by simp[Env.eJ],by simp,?_,by simp⟩
     have:(J.eJ U.res.length).sl U.res.length= .slice none 0 0:=by simp[Env.sl,Env.eJ]
     rw[this];exact World.ownsRow_nil w 0 ty 1
    ·trivial)
  obtain⟨d1,d2⟩:=fb r4 g2 g3;exact⟨_,fps',⟨r1.env g3 g2,g1,by rw[r3];exact d1.symm,d2⟩,g2,g3⟩
 ·rename_i c e esz l;split at h
  ·rename_i t hc;split at h<;>simp only[aa,reduceCtorEq]at h
   rename_i hl;obtain⟨l1,l2⟩:=Gw hl;subst h;have hkc:known U.res c:=by unfold known;rw[hc];simp
   have hlt:=aY hkc;have hh:=r2.holds c hkc;rw[hc]at hh;obtain⟨_,_,h3,h4⟩:=hh
   have hkn:known (bR U.res c (.blk t (.sa U.res.length))++ [.arr (some e) esz l]) U.res.length:=by
    simp_all[known,ca,bX,aN]
   obtain⟨fps',g1,g2,g3⟩:=r2.beside hag (bR U.res c (.blk t (.sa U.res.length))) [.arr (some e) esz l] (bX _ _ _)
    (fun i hi=>by
     rw[bI _ _ _ _ hlt];by_cases e:i=c
     ·subst e;refine .inr ⟨hkc,by unfold known;rw[bI _ _ _ _ hlt];simp,?_⟩
      simp only[if_true];refine⟨hkn,rfl,by rw[(hag i hkc).1];exact h3,?_⟩
      rw[(hag i hkc).1,h4];simp only[cells,qx];rfl
     ·exact .inl (by rw[aq e]))
    (fun k hk=>by
     have:k=0:=by simp at hk;omega
     subst this;simp only[Nat.add_zero];have hs:(J.eJ U.res.length).sl U.res.length= .slice none 0 0:=by simp[Env.sl,Env.eJ]
     refine⟨fun j hj=>by omega,by simp[Env.eJ,l1],by omega,by simp[Env.eJ],fun hj=>by omega,fun hj=>by omega,.inr ⟨e,by simp,?_,by simp[Env.eJ]⟩⟩
     rw[hs,l1,l2];exact World.ownsRow_nil w 0 e esz)
   obtain⟨d1,d2⟩:=fb r4 g2 g3;exact⟨_,fps',⟨r1.env g3 g2,g1,by rw[r3];exact d1.symm,d2⟩,g2,g3⟩
  ·simp at h
 ·rename_i t e esz l;split at h
  ·rename_i ht;split at h<;>simp only[aa,reduceCtorEq]at h
   rename_i hl;obtain⟨l1,l2⟩:=Gw hl;subst h
   have hkn:known (U.res++ [.arr (some e) esz l]) U.res.length:=by
    unfold known;rw[ca,aq (by omega)];simp[aN]
   obtain⟨fps',g1,g2,g3⟩:=r2.beside hag U.res [.arr (some e) esz l] rfl (fun i _=> .inl rfl)
    (fun k hk=>by
     have:k=0:=by simp at hk;omega
     subst this;simp only[Nat.add_zero];have hs:(J.eJ U.res.length).sl U.res.length= .slice none 0 0:=by simp[Env.sl,Env.eJ]
     refine⟨fun j hj=>by omega,by simp[Env.eJ,l1],by omega,by simp[Env.eJ],fun hj=>by omega,fun hj=>by omega,.inr ⟨e,by simp,?_,by simp[Env.eJ]⟩⟩
     rw[hs,l1,l2];exact World.ownsRow_nil w 0 e esz)
   obtain⟨d1,d2⟩:=fb r4 g2 g3;refine⟨_,fps',⟨⟨by rw[iv,ke];exact r1.1,fun u=>?_⟩,g1,by rw[r3];exact d1.symm,d2⟩,g2,g3⟩
   have hc:=(r1.clean.env g3 g2).2 u;rw[gR];by_cases e:u=t/\t<(clean U.slots).length
   ·rw[ar e];obtain⟨rfl,_⟩:=e;have:=r1.2 u;rw[ht]at this;refine⟨?_,hkn⟩;rw[this.1,qx];rfl
   ·rw[aq e];rw[kV]at hc⊢;cases hs:cm U.slots u<;>rw[hs]at hc<;>exact hc
  ·simp at h
 ·rename_i t;split at h
  case h_2=>simp at h
  rename_i k ht;split at h
  case h_3=>simp at h
  case h_2=>
   rename_i own esz l hrk;simp only[aa]at h;subst h;obtain⟨fps',g1,g2,g3,g4⟩:=Uj r2 hrk;obtain⟨d1,d2⟩:=fb r4 g2 g3;refine⟨_,fps',⟨⟨by rw[iv,ke];exact r1.1,fun u=>?_⟩,g1,by rw[r3];exact d1.symm,d2⟩,g2,g3⟩
   have hc:=(r1.clean.env g3 g2).2 u;rw[gR];by_cases e:u=t/\t<(clean U.slots).length
   ·rw[ar e];obtain⟨rfl,_⟩:=e;have:=r1.2 u;rw[ht]at this;refine⟨?_,g4⟩;rw[this.1];simp[den,Env.jd]
   ·rw[aq e];rw[kV]at hc⊢;cases hs:cm U.slots u<;>rw[hs]at hc<;>exact hc
  rename_i r hrk;split at h
  case h_2=>simp at h
  rename_i own esz l;simp only[aa]at h;subst h;have hkk:known U.res k:=by unfold known;rw[hrk];simp
  have hkl:=aY hkk;have hne:k≠U.res.length:=by omega
  have hag:Env.agree (known U.res) J (J.jd U.res.length k):=rq hnk
  have hkn:known (U.res++ [.arr none esz l]) U.res.length:=by
   unfold known;rw[ca,aq (by omega)];simp[aN]
  have hro:=r2.holds k hkk;rw[hrk]at hro
  obtain⟨fps',g1,g2,g3⟩:=r2.beside hag U.res [.arr none esz l] rfl (fun i _=> .inl rfl)
   (fun m hm=>by
    have:m=0:=by simp at hm;omega
    subst this;exact Ob (PJ (K':=fun _=>True) (fp2:=fun _=>False) hro))
  obtain⟨d1,d2⟩:=fb r4 g2 g3;refine⟨_,fps',⟨⟨by rw[iv,ke];exact r1.1,fun u=>?_⟩,g1,by rw[r3];exact d1.symm,d2⟩,g2,g3⟩
  have hc:=(r1.clean.env g3 g2).2 u;rw[gR];by_cases e:u=t/\t<(clean U.slots).length
  ·rw[ar e];obtain⟨rfl,_⟩:=e;have:=r1.2 u;rw[ht]at this;refine⟨?_,hkn⟩;rw[this.1];simp[den,Env.jd]
  ·rw[aq e];rw[kV]at hc⊢;cases hs:cm U.slots u<;>rw[hs]at hc<;>exact hc
 ·rename_i c;split at h
  case h_2=>simp at h
  rename_i t v hc;split at h
  case h_2=>simp at h
  rename_i k q n hv;have hv:=P6 hv;subst hv;split at h
  case h_2=>simp at h
  rename_i r hrk;split at h
  case h_2=>simp at h
  rename_i own esz l;simp only[aa]at h;subst h;have hkk:known U.res k:=by unfold known;rw[hrk];simp
  have hkc:known U.res c:=by unfold known;rw[hc];simp
  have hlt:=aY hkc;have hag:Env.agree (known U.res) J (J.jd U.res.length k):=rq hnk
  have hkn:known (bR U.res c (.blk t (.ag [.sa U.res.length,.it q n]))++ [.arr none esz l]) U.res.length:=by
   unfold known;rw[ca,bX,aq (by omega)];simp[aN]
  have hro:=r2.holds k hkk;rw[hrk]at hro;have hh:=r2.holds c hkc;rw[hc]at hh;obtain⟨b1,b2,b3,b4⟩:=hh
  obtain⟨fps',g1,g2,g3⟩:=r2.beside hag (bR U.res c (.blk t (.ag [.sa U.res.length,.it q n]))) [.arr none esz l] (bX _ _ _)
   (fun i hi=>by
    rw[bI _ _ _ _ hlt];by_cases e:i=c
    ·subst e;refine .inr ⟨hkc,by unfold known;rw[bI _ _ _ _ hlt];simp,?_⟩
     simp only[if_true];refine⟨⟨⟨hkn,b1.1.2.1,trivial⟩,b1.2⟩,b2,by rw[(hag i hkc).1];exact b3,?_⟩
     rw[(hag i hkc).1,b4,dF,dF];simp[br,cells,den,Env.jd]
    ·exact .inl (by rw[aq e]))
   (fun m hm=>by
    have:m=0:=by simp at hm;omega
    subst this;exact Ob (PJ (K':=fun _=>True) (fp2:=fun _=>False) hro))
  obtain⟨d1,d2⟩:=fb r4 g2 g3;exact⟨_,fps',⟨r1.env g3 g2,g1,by rw[r3];exact d1.symm,d2⟩,g2,g3⟩
 ·rename_i t;split at h
  case h_2=>simp at h
  rename_i v ht;split at h
  case h_2=>simp at h
  rename_i k n c;split at h
  case h_2=>simp at h
  rename_i e x hrk;split at h
  case h_2=>simp at h
  rename_i L hL;split at h
  case isFalse=>simp at h
  rename_i hb;simp only[af,ai,Nat.ble_eq]at hb;obtain⟨⟨hn,rfl⟩,hle⟩:=hb;simp only[aa]at h;subst h;obtain⟨fps',g1,g2,g3,g4⟩:=FW r2 hrk hL hn hle;obtain⟨d1,d2⟩:=fb r4 g2 g3;refine⟨_,fps',⟨⟨by rw[iv,ke];exact r1.1,fun u=>?_⟩,g1,by rw[r3];exact d1.symm,d2⟩,g2,g3⟩
  have hc:=(r1.clean.env g3 g2).2 u;rw[gR];by_cases e:u=t/\t<(clean U.slots).length
  ·rw[ar e];obtain⟨rfl,_⟩:=e;have:=r1.2 u;rw[ht]at this;refine⟨?_,g4⟩;rw[this.1];simp[den,Env.gj]
  ·rw[aq e];rw[kV]at hc⊢;cases hs:cm U.slots u<;>rw[hs]at hc<;>exact hc
 ·rename_i k;split at h
  case h_2=>simp at h
  rename_i r hr';simp only[aa]at h;subst h;obtain⟨ρ',fps',g1,g2,g3⟩:=CC hr' r2;obtain⟨d1,d2⟩:=fb r4 g2 g3;exact⟨ρ',fps',⟨r1.clean.env g3 g2,g1,by rw[r3];exact d1.symm,d2⟩,g2,g3⟩
 ·rename_i k e;split at h
  case h_2=>simp at h
  rename_i r hr';simp only[aa]at h;subst h;obtain⟨fps',g1,g3⟩:=CJ hr' r2;obtain⟨d1,d2⟩:=fb (J:=J) (ρ':=J) r4 (Env.agree.refl _ _) g3;exact⟨J,fps',⟨r1.clean.env g3 (Env.agree.refl _ _),g1,r3,d2⟩,Env.agree.refl _ _,g3⟩
 ·simp only[aa]at h;subst h
  obtain⟨fps',g1,g2,g3⟩:=r2.beside hag U.res [.dfr] rfl (fun i hi=> .inl rfl) (fun k hk=>by
   simp only[List.length_singleton,Nat.lt_one_iff]at hk;subst hk;refine⟨fun j hj=>?_,fun j k hj=>?_⟩
   ·simp[Env.eJ]at hj
   ·simp[Env.eJ]at hj)
  obtain⟨d1,d2⟩:=fb r4 g2 g3;refine⟨_,fps',⟨r1.env g3 g2,g1,?_,fun d hd=>?_⟩,g2,g3⟩
  ·rw[List.flatMap_cons,d1,r3];simp[lO,BO,Env.eJ]
  ·rcases List.mem_cons.1 hd with rfl|hd
   ·refine⟨⟨?_,trivial⟩,trivial⟩;show known (U.res++ [.dfr]) U.res.length
    unfold known;rw[ca,aq (by omega)]
    simp[aN]
   ·exact d2 d hd
def Env.AS(J:Env)(i p q:Nat):Env:= {J with sn:=fun j=>if j=i then J.sn p+J.sn q else J.sn j,ob:=fun j=>if j=i then fun x=>if x<J.sn p then J.ob p x else J.ob q (x-J.sn p)else J.ob j}
def HG(n:Nat)(U:St):Option St:=
 match U.defs with
 |d1::l=>match l with
  |d2::rest=>match BO d1.2.1 with
   |some p=>match BO d2.2.1 with
    |some q=>match aN U.res p with
     | .dfr=>match aN U.res q with
       | .dfr=>if p==q||Nat.blt U.res.length n then none else some {U with defs:=(0,[.yl U.res.length],[])::rest,res:=cA [p,q] U.res++ [.dfr]}
       |_=>none
     |_=>none
    |none=>none
   |none=>none
  | []=>none
 | []=>none
def EW(n:Nat):Nat->St->Option St
 |0,U=>some U
 |k+1,U=>match HG n U with
  |some s=>EW n k s
  |none=>none
theorem HL{α:Type}(f g h:Nat->α)(m k:Nat)(h1:∀j,j<m->f j=g j)(h2:∀j,j<k->f (m+j)=h j):(List.range (m+k)).map f=(List.range m).map g++(List.range k).map h:=by
 induction k with
 |zero=>simp only[Nat.add_zero,List.range_zero,List.map_nil,List.append_nil];exact List.map_congr_left fun j hj=>h1 j (List.mem_range.1 hj)
 |succ k ih=>
  rw[<-Nat.add_assoc,List.range_succ,List.range_succ,List.map_append,List.map_append,ih fun j hj=>h2 j (by omega),List.append_assoc]
  simp[h2 k (by omega)]
theorem Hn{n:Nat}{U σ':St}(h:HG n U=some σ')(hr:lE J fps U w0 F0 a w):∃ρ' fps',lE ρ' fps' σ' w0 F0 a w/\Env.agree (fun i=>i<n) J ρ':=by
 obtain⟨r1,r2,r3,r4⟩:=hr;unfold HG at h;split at h
 case h_2=>simp at h
 rename_i d1 l hd;split at h
 case h_2=>simp at h
 rename_i d2 rest;split at h
 case h_2=>simp at h
 rename_i p hp;split at h
 case h_2=>simp at h
 rename_i q hq;split at h
 case h_2=>simp at h
 rename_i hrp;split at h
 case h_2=>simp at h
 rename_i hrq;split at h
 case isTrue=>simp at h
 rename_i hc;simp only[aa]at h;subst h;simp only[Bool.or_eq_true,ai,not_or]at hc;obtain⟨hpq,hn⟩:=hc
 have hn:n<=U.res.length:=by
  simp_all
 have hkp:known U.res p:=by unfold known;rw[hrp];simp
 have hkq:known U.res q:=by unfold known;rw[hrq];simp
 have hlp:=aY hkp;have hlq:=aY hkq;have hP:=r2.holds p hkp;have hQ:=r2.holds q hkq;rw[hrp]at hP;rw[hrq]at hQ;obtain⟨P1,P2⟩:=hP;obtain⟨Q1,Q2⟩:=hQ
 have hag:Env.agree (fun i=>i<U.res.length) J (J.AS U.res.length p q):=fun i hi=>by
  grind[Env.AS]
 have hagk:Env.agree (known U.res) J (J.AS U.res.length p q):=hag.mono fun i hi=>aY hi
 obtain⟨fps',g1,g2,g3,g4⟩:=r2.pb (w':=w) (ρ':=J.AS U.res.length p q) [p,q] .dfr [] (fun b=>fps p b\/fps q b) (by simp) (fun t ht=>by
   rcases List.mem_cons.1 ht with rfl|ht
   ·exact hkp
   ·simp at ht;subst ht;exact hkq) (by simp) hagk
  (by
   refine⟨fun j hj=>?_,fun j k hj hk e=>?_⟩
   ·simp only[Env.AS,if_true]at hj⊢;by_cases hjp:j<J.sn p
    ·rw[ar hjp];exact⟨.inl (P1 j hjp).1,(P1 j hjp).2⟩
    ·rw[aq hjp];exact⟨.inr (Q1 _ (by omega)).1,(Q1 _ (by omega)).2⟩
   ·simp only[Env.AS,if_true]at hj hk e;by_cases hjp:j<J.sn p<;>by_cases hkp':k<J.sn p
    ·rw[ar hjp,ar hkp']at e;exact P2 j k hjp hkp' e
    ·rw[ar hjp,aq hkp']at e;exact absurd (by rw[e];exact(Q1 _ (by omega)).1) (r2.disj p q _ hkp hkq hpq (P1 j hjp).1)
    ·rw[aq hjp,ar hkp']at e;exact absurd (by rw[<-e];exact(Q1 _ (by omega)).1) (r2.disj p q _ hkp hkq hpq (P1 k hkp').1)
    ·rw[aq hjp,aq hkp']at e;have:=Q2 _ _ (by omega) (by omega) e
     omega)
  (fun b hb=> .inl (hb.elim (fun h=>⟨p,by simp,h⟩) fun h=>⟨q,by simp,h⟩)) rfl rfl rfl (Nat.le_refl _) (fun _ _ _=>rfl)
 have hl:∀d∈rest,fq (known U.res) d.2.1/\fq (known U.res) d.2.2:=fun d hd'=>r4 d (by rw[hd];simp[hd'])
 obtain⟨e1,e2⟩:=fb hl hagk g3;refine⟨_,fps',⟨r1.env g3 hagk,g1,?_,fun d hd'=>?_⟩,hag.mono fun i hi=>by omega⟩
 ·rw[r3,hd];simp only[List.flatMap_cons];rw[e1,<-List.append_assoc];congr 1
  unfold lO;rw[hp,hq];simp only[BO];simp only[Env.AS,if_true];exact(HL _ _ _ _ _ (fun j hj=>by rw[ar hj]) fun j hj=>by rw[aq (by omega),show J.sn p+j-J.sn p=j by omega]).symm
 ·rcases List.mem_cons.1 hd' with rfl|hd'
  ·exact⟨⟨g4,trivial⟩,trivial⟩
  ·exact e2 d hd'
theorem Bg{n:Nat}:∀{k:Nat} {U σ':St} {J:Env} {fps:Nat->Nat->Prop},EW n k U=some σ'->lE J fps U w0 F0 a w->∃ρ' fps',lE ρ' fps' σ' w0 F0 a w/\Env.agree (fun i=>i<n) J ρ'
 |0,U,σ',J,fps,h,hr=>by simp only[EW,aa]at h;subst h;exact⟨J,fps,hr,Env.agree.refl _ _⟩
 |k+1,U,σ',J,fps,h,hr=>by
  simp only[EW]at h;split at h
  ·rename_i s hs;obtain⟨ρ1,fps1,g1,g2⟩:=Hn hs hr;obtain⟨ρ2,fps2,g3,g4⟩:=Bg h g1;exact⟨ρ2,fps2,g3,g2.trans g4 fun i hi=>hi⟩
  ·simp at h
theorem om:∀{l:List Gh} {U σ':St} {J:Env} {fps:Nat->Nat->Prop},sg l U=some σ'->lE J fps U w0 F0 a w->∃ρ' fps',lE ρ' fps' σ' w0 F0 a w/\Good J U.res ρ' σ'.res
 | [],U,σ',J,fps,h,hr=>by simp only[sg,aa]at h;subst h;exact⟨J,fps,hr,Good.refl _ _⟩
 |g::l,U,σ',J,fps,h,hr=>by
  simp only[sg]at h;split at h
  ·rename_i σ1 h1;obtain⟨ρ1,fps1,g1,g2⟩:=G8 h1 hr;obtain⟨ρ2,fps2,g3,g4⟩:=om h g1;exact⟨ρ2,fps2,g3,g2.trans g4⟩
  ·simp at h
end
end Go.Sx
