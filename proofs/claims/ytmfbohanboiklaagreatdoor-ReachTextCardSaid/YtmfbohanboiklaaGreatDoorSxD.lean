import Derived.Test.YtmfbohanboiklaaGreatDoorSxC
import Derived.TacticsIn
import Derived.OrdersIn
import Derived.RangeFuncLeaves
import Derived.RangeFuncRecord
set_option linter.unusedSimpArgs false
set_option linter.unusedVariables false
namespace Go.Sx
open Go.RowKit (Below)
structure St where
 slots:List S
 res:List aI
 defs:List (Nat×List V×List V)
def tt:List V->Option Nat
 | [x]=>match x with
   | .yl k=>some k
   |_=>none
 |_=>none
def fD(J:Env)(d:Nat×List V×List V):List Deferred:=
 match tt d.2.1 with
 |some k=>(List.range (J.sn k)).map fun j=> {target:= .collected (J.ob k j),args:= #[]}
 |none=> [{target:= .fn (.func d.1) (aV J d.2.2).toArray,args:=(aV J d.2.1).toArray}]
theorem D0{l:List V}{k:Nat}(h:tt l=some k):l= [.yl k]:=by
 unfold tt at h;split at h
 ·grind
 ·simp at h
def fq(J:Env)(fps:Nat->Nat->Prop)(U:St)(w0:World)(F0:Nat->Prop)(a:Act)(w:World):Prop:=
 er J (known U.res) U.slots a/\aQ J fps U.res (known U.res) w0 F0 w/\a.defers=U.defs.flatMap (fD J)/\∀d∈U.defs,cm (known U.res) d.2.1/\cm (known U.res) d.2.2
def Good(J:Env)(res:List aI)(ρ':Env)(res':List aI):Prop:=Env.agree (known res) J ρ'/\∀i,known res i->known res' i
theorem Good.refl(J:Env)(res:List aI):Good J res J res:=⟨Env.agree.refl _ _,fun _ h=>h⟩
theorem Good.trans{J ρ' ρ'':Env}{r r' r'':List aI}(h:Good J r ρ' r')(h':Good ρ' r' ρ'' r''):Good J r ρ'' r'':=
 ⟨h.1.trans h'.1 h.2,fun i hi=>h'.2 i (h.2 i hi)⟩
theorem bY{J ρ':Env}{K K':Nat->Prop}{l:List (Nat×List V×List V)}(hl:∀d∈l,cm K d.2.1/\cm K d.2.2)(ha:Env.agree K J ρ')(hK:∀i,K i->K' i):
  l.flatMap (fD ρ')=l.flatMap (fD J)/\∀d∈l,cm K' d.2.1/\cm K' d.2.2:=
 ⟨by
  rw[List.flatMap_def,List.flatMap_def];refine congrArg _ (List.map_congr_left fun d hd=>?_)
  ·
   unfold fD;cases hm:tt d.2.1 with
   |none=>simp only[cx ha _ (hl d hd).1,cx ha _ (hl d hd).2]
   |some k=>
    have h1:=(hl d hd).1;rw[D0 hm]at h1;simp only[(ha k h1.1).2.2.2.2.1,(ha k h1.1).2.2.2.2.2],fun d hd=>⟨br hK _ (hl d hd).1,br hK _ (hl d hd).2⟩⟩
def aJ[Fen](P:Program)(f:Nat)(args:List V)(res:List aI)(K:V->List aI->Prop)(KP:V->List aI->Prop):Prop:=
 ∀J fps w0 F0 w,aQ J fps res (known res) w0 F0 w->cm (known res) args->
  CallsIn (FF P none) 0 P f (aV J args).toArray w fun e w'=>∃x ρ' fps' res',aQ ρ' fps' res' (known res') w0 F0 w'/\Good J res ρ' res'/\ok (known res') x/\
   ((e= .returned (den ρ' x)/\K x res')\/(e= .panicked [{v:=den ρ' x,recovered:=false}]/\KP x res'))
abbrev Handler:=Nat->List V->List aI->(V->List aI->Prop)->(V->List aI->Prop)->Prop
def Handler.OK[Fen](P:Program)(H:Handler):Prop:=∀f args res K KP,H f args res K KP->aJ P f args res K KP
def iY(res new:List aI):List aI:=
 match new with
 | []=>res
 |r::l=>res++(r::l)
theorem lP(res new:List aI):iY res new=res++new:=by cases new<;>simp[iY]
def BU(d:Nat):S->Bool
 | .gv ch _=> !named d ch
 |_=>true
def iB(sl:List S)(dst:Option Nat)(s:S):Option (List S):=
 match dst with
 |none=>some sl
 |some d=>if rX d sl&&BU d s then some (sset sl d s)else none
def vR:List S->Nat->S->(List S->Prop)->Prop
 | [],_,_,k=>k []
 |_::l,0,y,k=>k (y::l)
 |x::l,n+1,y,k=>vR l n y fun l'=>k (x::l')
theorem rY:∀(l:List S) (n:Nat) (y:S) (k:List S->Prop),vR l n y k=k (sset l n y)
 | [],_,_,_=>rfl
 |_::_,0,_,_=>rfl
 |_::l,n+1,y,k=>by simp only[vR,sset];exact rY l n y _
def gZ(sl:List S)(dst:Option Nat)(s:S)(k:List S->Prop):Prop:=
 match dst with
 |none=>k sl
 |some d=>if rX d sl&&BU d s then vR sl d s k else False
theorem fe(sl:List S)(dst:Option Nat)(s:S)(k:List S->Prop):gZ sl dst s k=match iB sl dst s with|some l=>k l|none=>False:=by
 unfold gZ iB;cases dst with
 |none=>rfl
 |some d=>
  simp only;split
  ·rw[rY]
  ·rfl
def qY:List S->(List S->Prop)->Prop
 | [],k=>k []
 |x::l,k=>match x with
  | .und=>qY l fun l'=>k (.und::l')
  | .ud=>qY l fun l'=>k (.ud::l')
  | .v y=>qY l fun l'=>k (.v y::l')
  | .gv c y=>qY l fun l'=>k (.gv c y::l')
theorem nR:∀(l:List S) (k:List S->Prop),qY l k=k l
 | [],_=>rfl
 |x::l,k=>by cases x<;>simp only[qY]<;>exact nR l _
def gr:List S->(List S->Prop)->Prop
 | [],k=>k []
 |x::l,k=>match x with
  | .v y=>gr l fun l'=>k (.v y::l')
  |_=>gr l fun l'=>k (.und::l')
theorem fl:∀(l:List S) (k:List S->Prop),gr l k=k (clean l)
 | [],_=>rfl
 |x::l,k=>by cases x<;>simp only[gr,clean]<;>exact fl l _
def jW(P:Program)(res:List aI)(t:Nat)(p y:V):Option (List aI):=
 if iz P t==some (bP y)&& !bp y then
  match p with
  | .lp id off=>match aH res id with
    | .blk ty c=>(setAt 8 c off y).map fun c'=>bd res id (.blk ty c')
    |_=>none
  | .lx id off esz n i inner=>match aH res id with
    | .blk ty c=>(zE c off esz n i inner y).map fun c'=>bd res id (.blk ty c')
    |_=>none
  |_=>none
 else none
def KT(v:V)(z j:Nat):Option V:=
 match v with
 | .ks x z' n lo hi=>match x with
   | .lp id off=>if z==z'&&Nat.blt j (hi-lo)then some (.lp id (off+(lo+j)*z))else none
   |_=>none
 | .sc id len _=>if Nat.blt j len then some (.lp id (j*z))else none
 |_=>none
def KR:V->Option Nat
 | .ks x _ _ lo hi=>if Bt x then some (hi-lo)else none
 | .sc _ len _=>some len
 |_=>none
def Jx(C:Ctx)(res:List aI)(t z:Nat)(v:V):Nat->Nat->Option (List V)
 |_,0=>some []
 |j,m+1=>match KT v z j with
  |some p=>match rA C res t p with
   |some r=>match r.1 with
    |none=>match Jx C res t z v (j+1) m with
     |some l=>some (r.2::l)
     |none=>none
    |some _=>none
   |none=>none
  |none=>none
def Kx(P:Program)(t z:Nat)(v:V):Nat->List V->List aI->Option (List aI)
 |_,[],res=>some res
 |j,y::l,res=>match KT v z j with
  |some p=>match jW P res t p y with
   |some res'=>Kx P t z v (j+1) l res'
   |none=>none
  |none=>none
def LW(C:Ctx)(res:List aI)(ts:List Nat)(xs:List V):Option (V×List aI):=
 match ts,xs with
 | [t,_],[d,s]=>match C.P.underlying t with
   |some (.slice e)=>match iz C.P e,fM C.P e,KR d,KR s with
    |some z,some a,some n,some m=>if a&&bU .i64 ((Nat.min m n:Nat):Int)then match Jx C res e z s 0 (Nat.min m n)with
     |some l=>match Kx C.P e z d 0 l res with
      |some res'=>some (.ci .i64 ((Nat.min m n:Nat):Int),res')
      |none=>none
     |none=>none
     else none
    |_,_,_,_=>none
   |_=>none
 |_,_=>none
def Lr(C:Ctx)(res:List aI)(ts:List Nat)(xs:List V):Option (V×List aI):=
 match Ll C res ts xs with
 |some r=>some r
 |none=>LW C res ts xs
abbrev bJ:=Nat->List V->List aI->(V->List aI->Prop)->(V->List aI->Prop)->Prop
def LH:bJ:=fun _ _ _ _ _=>False
theorem Hc{N:Nat->Prop}{g:Nat}{vs caps:List V}(h1:cm N vs)(h2:cm N caps):cm N (Fo g vs caps):=by
 grind[Fo,dZ]
def yq(C:Ctx)(H:Handler)(vs:List V)(res:List aI)(K KP:V->List aI->Prop):V->Prop
 | .fn g caps=>eo C.P (xx g)=true/\H (xx g) (Fo g vs caps) res K KP
 | .ch b g caps y=>(b=true->eo C.P (xx g)=true/\H (xx g) (Fo g vs caps) res K KP)/\(b=false->yq C H vs res K KP y)
 |_=>False
theorem py{C:Ctx}{H:Handler}{vs:List V}{res:List aI}{K KP:V->List aI->Prop}{J:Env}{N:Nat->Prop}:∀fv,yq C H vs res K KP fv->ok N fv->
  ∃g caps,den J fv=xy g (aV J caps)/\cm N caps/\eo C.P (xx g)=true/\H (xx g) (Fo g vs caps) res K KP
 | .fn g caps,h,hk=>⟨g,caps,rfl,hk,h.1,h.2⟩
 | .ch b g caps y,h,hk=>by
   cases b
   ·obtain⟨g',caps',e⟩:=py (J:=J) y (h.2 rfl) hk.2.1;exact⟨g',caps',e⟩
   ·exact⟨g,caps,rfl,hk.1,(h.1 rfl).1,(h.1 rfl).2⟩
 | .cb _,h,_| .bo _,h,_| .ci _ _,h,_| .it _ _,h,_| .bt _,h,_| .st _,h,_| .nl _,h,_| .lp _ _,h,_| .lx _ _ _ _ _ _,h,_| .sc _ _ _,h,_| .so _ _,h,_| .ap _ _ _ _,h,_| .sa _,h,_| .op _ _,h,_| .yl _,h,_| .ic _ _,h,_| .ag _,h,_| .tp _,h,_
 | .key _,h,_| .sl _,h,_| .by _,h,_| .ob _,h,_| .mp _,h,_| .ax _ _ _ _ _ _ _ _,h,_| .bs _ _ _,h,_| .ks _ _ _ _ _,h,_| .vw _ _ _ _,h,_=>h.elim
def HW(C:Ctx)(res:List aI)(t:Nat)(x y:V):Option (Option Prop×V×List aI):=
 match IY C res t x y with
 |some r=>some r
 |none=>match G5 C res t x y with
  |some r=>some r
  |none=>match FK C res t x y with
   |some r=>some r
   |none=>IW C res t x y
theorem Ai{C:Ctx}{J:Env}{fps:Nat->Nat->Prop}{res:List aI}{w0 w:World}{F0:Nat->Prop}{t ty:Nat}{x y r:V}{q:Option Prop}{res':List aI}(hC:C.vo)(h:aQ J fps res (known res) w0 F0 w)(ha:HW C res t x y=some (q,r,res'))(hq:bq q)(hx:ok (known res) x)(hy:ok (known res) y):
  ∃w' ρ' fps',(Builtin.append_ #[t,t] ty #[den J x,den J y]).run C.P w= .ok (den ρ' r) w'/\aQ ρ' fps' res' (known res') w0 F0 w'/\Env.agree (known res) J ρ'/\(∀i,known res i->known res' i)/\ok (known res') r:=by
 unfold HW at ha;split at ha
 ·rename_i r' hr;simp only[aa]at ha;subst ha;exact Bl hC h hr hq hx
 ·split at ha
  ·rename_i r' hr;simp only[aa]at ha;subst ha;exact Bb hC h hr hq hx
  ·split at ha
   ·rename_i r' hr;simp only[aa]at ha;subst ha;exact ux hC h hr hq
   ·exact Aa hC h hy ha hq
def EI(C:Ctx)(H:Handler)(Y:bJ)(U:St)(ch:List (Nat×Bool))(o:Oper)(K:St->Prop)(KP:V->St->Prop):Prop:=
 match o.op with
 | .store t p x=>match bS U.slots ch p,bS U.slots ch x,o.dst with
   |some pv,some xv,none=>match jW C.P U.res t pv xv with
    |some res'=>K {U with res:=res'}
    |none=>match xQ C.P U.res t pv xv with
     |some (q,res')=>rV q (K {U with res:=res'})
     |none=>False
   |_,_,_=>False
 | .insert t m k x=>match bS U.slots ch m,bS U.slots ch k,bS U.slots ch x,o.dst with
   |some mv,some kv,some xv,none=>match FW C.P U.res t mv kv xv with
    |some res'=>K {U with res:=res'}
    |none=>match FI C.P U.res t mv kv xv with
     |some res'=>K {U with res:=res'}
     |none=>False
   |_,_,_,_=>False
 | .mapEntry t m k=>match bS U.slots ch m,bS U.slots ch k with
   |some mv,some kv=>match Li C U.res t mv kv with
    |some (q,v,res')=>rV q (gZ U.slots o.dst (.v v) fun sl=>K {U with slots:=sl,res:=res'})
    |none=>False
   |_,_=>False
 | .entryStore t m s x=>match bS U.slots ch m,bS U.slots ch s,bS U.slots ch x,o.dst with
   |some mv,some sv,some xv,none=>match La U.res mv sv xv with
    |some (q,res')=>rV q (K {U with res:=res'})
    |none=>False
   |_,_,_,_=>False
 | .next it b=>if b then False else match bS U.slots ch it with
   |some p=>Lt U.res p fun v res'=>gZ U.slots o.dst (.v v) fun sl=>K {U with slots:=sl,res:=res'}
   |none=>False
 | .slice t x lo hi mx=>match lo,hi,mx with
   |some l,none,none=>match bS U.slots ch x,bS U.slots ch l with
    |some xv,some lv=>match Lp C.P U.res t xv lv with
     |some (q,v,res')=>rV q (gZ U.slots o.dst (.v v) fun sl=>K {U with slots:=sl,res:=res'})
     |none=>False
    |_,_=>False
   |_,_,_=>False
 | .panic x=>match bS U.slots ch x with
   |some (.ic t y)=>KP (.ic t y) {U with slots:=clean U.slots}
   |_=>False
 | .call c=>match c.callee with
   | .value f=>match bS U.slots ch f,gz U.slots ch c.args.toList with
     |some (.fn g caps),some vs=>eo C.P (xx g)=true/\H (xx g) (Fo g vs caps) U.res
      (fun x res'=>gZ U.slots o.dst (.v x) fun sl=>K {U with slots:=sl,res:=res'})
      (fun x res'=>KP x {U with slots:=clean U.slots,res:=res'})
     |some (.ch b g caps y),some vs=>yq C H vs U.res
      (fun x res'=>gZ U.slots o.dst (.v x) fun sl=>K {U with slots:=sl,res:=res'})
      (fun x res'=>KP x {U with slots:=clean U.slots,res:=res'}) (.ch b g caps y)
     |some (.yl k),some vs=>Y k vs U.res
      (fun x res'=>gZ U.slots o.dst (.v x) fun sl=>K {U with slots:=sl,res:=res'})
      (fun x res'=>KP x {U with slots:=clean U.slots,res:=res'})
     |_,_=>False
   | .builtin .append=>match c.argTypes.toList,gz U.slots ch c.args.toList with
     | [t,t'],some [x,y]=>if t==t' then match HW C U.res t x y with
       |some (q,v,res')=>rV q (gZ U.slots o.dst (.v v) fun sl=>K {U with slots:=sl,res:=res'})
       |none=>False
       else False
     |_,_=>False
   | .builtin .copy=>match gz U.slots ch c.args.toList with
     |some vs=>match Lr C U.res c.argTypes.toList vs with
      |some (v,res')=>gZ U.slots o.dst (.v v) fun sl=>K {U with slots:=sl,res:=res'}
      |none=>False
     |none=>False
   | .builtin .clear=>match gz U.slots ch c.args.toList with
     |some vs=>match HY C U.res c.argTypes.toList vs with
      |some res'=>gZ U.slots o.dst (.v (.tp [])) fun sl=>K {U with slots:=sl,res:=res'}
      |none=>False
     |none=>False
   |_=>False
 | .defer c=>match c.callee,o.dst with
   | .value f,none=>match bS U.slots ch f,gz U.slots ch c.args.toList with
     |some (.fn g caps),some vs=>match tt vs with
      |none=>if Nat.blt g 2000 then K {U with defs:=(g,vs,caps)::U.defs}else False
      |some _=>False
     |_,_=>False
   |_,_=>False
 |_=>False
def pW:List (Nat×Bool)->Nat->Option Bool
 | [],_=>none
 | (s,w)::c,i=>if s==i then some w else pW c i
def ve(ch:List (Nat×Bool))(i:Nat)(s:S):S:=
 match s with
 | .v y=>match y with
   | .bo b=>match pW ch i with
     |some w=> .v (.cb w)
     |none=> .v (.bo b)
   |y=> .v y
 | .gv c y=>if zd c ch then match y with
   | .bo b=>match pW ch i with
     |some w=> .v (.cb w)
     |none=> .v (.bo b)
   |y=> .v y
   else .gv c y
 |s=>s
def yU(ch:List (Nat×Bool)):Nat->List S->List S
 |_,[]=> []
 |i,s::l=>ve ch i s::yU ch (i+1) l
def fixF(t:Nat)(w:Bool)(i:Nat)(s:S):S:=
 match s with
 | .v y=>match y with
   | .bo b=>if i==t then .v (.cb (!w))else .v (.bo b)
   |y=> .v y
 | .gv c _=>if zg c t w then .ud else .und
 |s=>s
def wQ(t:Nat)(w:Bool):Nat->List S->List S
 |_,[]=> []
 |i,s::l=>fixF t w i s::wQ t w (i+1) l
def KA(ch:List (Nat×Bool))(l:List S):List S:=
 match ch with
 | [(t,w)]=>match bh l t with
   | .v (.bo _)=>wQ t w 0 l
   |_=>l
 |_=>l
def ri(C:Ctx)(H:Handler)(Y:bJ)(ops:List Oper)(o:Oper)(U:St)(K:St->Prop)(KP:V->St->Prop):Prop:=
 if KV C.P U.slots o then match lM U.slots ops o.guard with
 |none=>False
 |some none=>gZ U.slots o.dst .ud fun sl=>K {U with slots:=sl}
 |some (some ch)=>match uC C U.slots U.res U.res.length ch o.op with
  |some (q,x,new)=>
   if ch.isEmpty then
    gZ U.slots o.dst (.v x) fun sl=>rV q (K {U with slots:=sl,res:=iY U.res new})
   else if new.isEmpty then
    gZ U.slots o.dst (.gv ch x) fun sl=>H5 (gx U.slots ch) q (K {U with slots:=sl})
   else(gx U.slots ch=true->gZ U.slots o.dst (.v x) fun sl=>rV q (K {U with slots:=sl,res:=iY U.res new}))/\(gx U.slots ch=false->gZ U.slots o.dst .ud fun sl=>K {U with slots:=sl})
  |none=>if ch.isEmpty then EI C H Y U ch o K KP else(gx U.slots ch=true->qY (yU ch 0 U.slots) fun sl=>EI C H Y {U with slots:=sl} [] o K KP)/\(gx U.slots ch=false->qY (KA ch U.slots) fun sl=>gZ sl o.dst .ud fun sl=>K {U with slots:=sl})
 else False
section
variable {C:Ctx} {J:Env} {fps:Nat->Nat->Prop} {w0 w:World} {F0:Nat->Prop} {a:Act}
theorem er.iB{K:Nat->Prop}{sl sl':List S}{dst:Option Nat}{s:S}{x:Value}(h:er J K sl a)(hp:iB sl dst s=some sl')
  (hs:∀d,dst=some d->rX d sl=true->(∀ch y,s= .gv ch y->named d ch=false)->du J K (sset sl d s) x s):er J K sl' (a.put dst x):=by
 unfold Sx.iB at hp;cases dst with
 |none=>simp only[aa]at hp;subst hp;exact h
 |some d=>
  simp only at hp;split at hp
  ·rename_i hc;simp only[aa]at hp;simp only[ah]at hc;subst hp;refine h.put hc.1 (hs d rfl hc.1 fun ch y e=>?_)
   subst e;simpa[BU]using hc.2
  ·simp at hp
theorem put_defers(a:Act)(dst:Option Nat)(v:Value):(a.put dst v).defers=a.defers:=by cases dst<;>rfl
theorem AO(w:World)(g:Nat)(cs cs':Array Value)(t:Nat)(h:w.heap[g]? =some (.cells cs t (0,0))):(w.setRow g cs').heap[g]? =some (.cells cs' t (0,0)):=by
 exact setRow_heap w g cs cs' t (0,0) h
theorem rL{P:Program}{res res':List aI}{K:Nat->Prop}{t:Nat}{p y:V}(h:aQ J fps res K w0 F0 w)(hs:jW P res t p y=some res')(hp:ok K p)(hy:ok K y):
  ∃b off ty cs cs',den J p= .pointer (some ⟨b,off,none⟩)/\w.heap[b]? =some (.cells cs ty (0,0))/\(∀w1:World,w1.heap[b]? =some (.cells cs ty (0,0))->(Instr.storeAt t (den J p) (den J y)).run P w1= .ok () (w1.setRow b cs'))/\aQ J fps res' K w0 F0 (w.setRow b cs')/\∀i,known res' i↔known res i:=by
 unfold jW at hs;split at hs
 ·rename_i hc;simp only[ah,aj,Bool.not_eq_true']at hc;obtain⟨hsz,hty⟩:=hc
  have fin:∀id ty c c' off,aH res id= .blk ty c->zX K J c c' off y->den J p= .pointer (some ⟨J.num id,off,none⟩)->
    ∃b off ty' cs cs',den J p= .pointer (some ⟨b,off,none⟩)/\w.heap[b]? =some (.cells cs ty' (0,0))/\(∀w1:World,w1.heap[b]? =some (.cells cs ty' (0,0))->(Instr.storeAt t (den J p) (den J y)).run P w1= .ok () (w1.setRow b cs'))/\aQ J fps (bd res id (.blk ty c')) K w0 F0 (w.setRow b cs')/\∀i,known (bd res id (.blk ty c')) i↔known res i:=by
   intro id ty c c' off hr hput hdp;have hk:known res id:=by unfold known;rw[hr];simp
   have hh:=h.holds id hk;rw[hr]at hh;obtain⟨h1,h2,h3,h4⟩:=hh;refine⟨J.num id,off,ty,(cells J c).toArray,(cells J c').toArray,hdp,h4,fun w1 hw1=>?_,h.write hr hput.2.2.1 hput.2.2.2 rfl rfl rfl (by simp[World.setRow]) (AO w _ _ _ _ h4) fun b hb=>setRow_other w _ _ b hb,fun i=>?_⟩
   ·have hst:=sr (P:=P) (t:=t) w1 hy hty hsz hw1 hput;rw[hdp];simp only[Instr.storeAt,Instr.sureAddr,Sem.run_bind,Sem.run_pure,Result.andThen_ok];exact hst
   ·grind[known,aY,aK]
  split at hs
  ·rename_i id off;split at hs
   ·rename_i ty c hr;cases hset:setAt 8 c off y with
    |none=>simp[hset]at hs
    |some c'=>
     simp only[hset,Option.map_some,aa]at hs;subst hs;have hh:=h.holds id (by unfold known;rw[hr];simp)
     rw[hr]at hh;exact fin id ty c c' off hr (dF J y hy hty 8 c off c' hh.1 hh.2.1 hset) rfl
   ·simp at hs
  ·rename_i id off esz n i inner;split at hs
   ·rename_i ty c hr;cases hset:zE c off esz n i inner y with
    |none=>simp[hset]at hs
    |some c'=>
     simp only[hset,Option.map_some,aa]at hs;subst hs;have hh:=h.holds id (by unfold known;rw[hr];simp)
     rw[hr]at hh;exact fin id ty c c' _ hr (yd J hh.1 hh.2.1 hp.2 hy hty hset) rfl
   ·simp at hs
  ·simp at hs
 ·simp at hs
theorem kB{P:Program}{res res':List aI}{K:Nat->Prop}{t:Nat}{p y:V}(h:aQ J fps res K w0 F0 w)(hs:jW P res t p y=some res')(hp:ok K p)(hy:ok K y):
  ∃w',(Instr.storeAt t (den J p) (den J y)).run P w= .ok () w'/\aQ J fps res' K w0 F0 w'/\∀i,known res' i↔known res i:=by
 obtain⟨b,off,ty,cs,cs',h1,h2,h3,h4,h5⟩:=rL h hs hp hy;exact⟨_,h3 w h2,h4,h5⟩
theorem zj{J:Env}{v:V}{n:Nat}(h:KR v=some n):∃a cap,den J v= .slice (some a) n cap:=by
 unfold KR at h;split at h
 ·split at h<;>simp only[aa,reduceCtorEq]at h
  rename_i hx;subst h;obtain⟨b,o,hd⟩:=nW (J:=J) hx;simp only[den,pC,hd];exact⟨_,_,rfl⟩
 ·simp only[aa]at h;subst h;exact⟨_,_,rfl⟩
 ·simp at h
theorem y8{J:Env}{K:Nat->Prop}{v p:V}{z j n cap:Nat}{a:Addr}(h:KT v z j=some p)(hk:ok K v)(hd:den J v= .slice (some a) n cap):a.spot=none/\den J p= .pointer (some (a.add (j*z)))/\ok K p:=by
 unfold KT at h;split at h
 ·rename_i x z' n' lo hi;split at h
  case h_2=>simp at h
  rename_i id off;split at h<;>simp only[aa,reduceCtorEq]at h
  rename_i hc;simp only[ah,aj,Nat.blt_eq]at hc;obtain⟨rfl,hj⟩:=hc;subst h;obtain⟨hk1,hk2,hk3⟩:=hk;simp only[den,pC]at hd⊢;rw[ar (by omega),add_lit]at hd
  simp only[Value.slice.injEq,aa]at hd;obtain⟨rfl,h2,h3⟩:=hd;rw[add_lit];exact⟨rfl,by simp only[Nat.add_mul,Nat.add_assoc],hk1⟩
 ·split at h<;>simp only[aa,reduceCtorEq]at h
  subst h;simp only[den,Value.slice.injEq,aa]at hd;obtain⟨rfl,h2,h3⟩:=hd;refine⟨rfl,?_,hk⟩;simp only[den];rw[add_lit,Nat.zero_add]
 ·simp at h
theorem add_add{a:Addr}(h:a.spot=none)(i j:Nat):(a.add i).add j=a.add (i+j):=by
 obtain⟨b,o,s⟩:=a;simp only at h;subst h;rw[add_lit,add_lit,add_lit,Nat.add_assoc]
theorem ti{a:Addr}(h:a.spot=none)(k:Nat):∀(n i:Nat) (acc:Array Value),loadCellsFrom (a.add k) i n acc=loadCellsFrom a (k+i) n acc
 |0,i,acc=>rfl
 |n+1,i,acc=>by
  simp only[loadCellsFrom,add_add h];congr 1
  funext v
  exact ti h k n (i+1) (acc.push v)
theorem zb{P:Program}{a:Addr}{w:World}:∀(n i:Nat) (acc ys:Array Value) (w':World),(loadCellsFrom a i n acc).run P w= .ok ys w'->w'=w/\∃xs,ys=acc++xs/\∀acc',(loadCellsFrom a i n acc').run P w= .ok (acc'++xs) w
 |0,i,acc,ys,w',h=>by
  simp only[loadCellsFrom,Sem.run_pure,Result.ok.injEq]at h;obtain⟨rfl,rfl⟩:=h;exact⟨rfl, #[],by simp,fun acc'=>by simp[loadCellsFrom]⟩
 |n+1,i,acc,ys,w',h=>by
  simp only[loadCellsFrom,Sem.run_bind]at h;cases hv:(load (a.add i)).run P w with
  |halt x w1=>rw[hv]at h;simp[Result.andThen]at h
  |ok v w1=>
   have hw:w1=w:=by
    rw[run_load]at hv;split at hv
    ·simp only[Result.ok.injEq]at hv;exact hv.2.symm
    ·grind
   subst hw;rw[hv]at h;simp only[Result.andThen_ok]at h;obtain⟨rfl,xs,rfl,h3⟩:=zb n (i+1) _ _ _ h;refine⟨rfl, #[v]++xs,by apply Array.ext';simp,fun acc'=>?_⟩
   simp only[loadCellsFrom,Sem.run_bind,hv,Result.andThen_ok,h3];congr 1
   apply Array.ext'
   simp
theorem yS{P:Program}{a:Addr}:∀(p q i:Nat) (acc:Array Value) (w:World),(loadCellsFrom a i (p+q) acc).run P w=((loadCellsFrom a i p acc).run P w).andThen fun acc' w'=>(loadCellsFrom a (i+p) q acc').run P w'
 |0,q,i,acc,w=>by simp[loadCellsFrom]
 |p+1,q,i,acc,w=>by
  rw[show p+1+q=(p+q)+1 by omega]
  simp only[loadCellsFrom,Sem.run_bind];cases hv:(load (a.add i)).run P w with
  |halt x w1=>simp[Result.andThen]
  |ok v w1=>
   simp only[Result.andThen_ok];rw[yS p q (i+1),show i+1+p=i+(p+1) by omega]
theorem xe{C:Ctx}{res:List aI}{K:Nat->Prop}{t z:Nat}{v:V}{a:Addr}{len cap:Nat}(h:aQ J fps res K w0 F0 w)(ht:fM C.P t=some true)(hz:iz C.P t=some z)(hk:ok K v)(hd:den J v= .slice (some a) len cap):
  ∀(m j:Nat) (l:List V),Jx C res t z v j m=some l->(∀acc,(loadCellsFrom a (j*z) (m*z) acc).run C.P w= .ok (acc++(aR J l).toArray) w)/\cm K l/\oE l
 |0,j,l,hl=>by
  simp only[Jx,aa]at hl;subst hl;exact⟨fun acc=>by simp[loadCellsFrom,aR],trivial,trivial⟩
 |m+1,j,l,hl=>by
  simp only[Jx]at hl;split at hl
  case h_2=>simp at hl
  rename_i p hp;split at hl
  case h_2=>simp at hl
  rename_i r hr;split at hl
  case h_2=>simp at hl
  rename_i hq;split at hl<;>simp only[aa,reduceCtorEq]at hl
  rename_i l' hl';subst hl;obtain⟨y1,y2⟩:=r;simp only at hq hr;subst hq;obtain⟨p1,p2,p3⟩:=y8 hp hk hd;obtain⟨e1,e2,e3⟩:=mJ h hr trivial p3;obtain⟨i1,i2,i3⟩:=xe h ht hz hk hd m (j+1) l' hl';rw[p2]at e1;simp only[Instr.loadAt,Instr.sureAddr,Sem.run_bind,Sem.run_pure,Result.andThen_ok,loadVar,lT w ht,if_true,cE w hz]at e1;have hag:(den J y2).cells=(cells J y2).toArray:=by simp[cells]
  cases hc:(loadCells (a.add (j*z)) z).run C.P w with
  |halt x w1=>rw[hc]at e1;simp[Result.andThen]at e1
  |ok cs w1=>
   rw[hc]at e1;simp only[Result.andThen_ok,Sem.run_pure,Result.ok.injEq]at e1;obtain⟨e1,rfl⟩:=e1
   have hcs:cs=(cells J y2).toArray:=by
    rw[<-hag,<-e1];rfl
   unfold loadCells at hc;rw[ti p1]at hc;obtain⟨_,xs,hx,hrun⟩:=zb _ _ _ _ _ hc;simp only[Nat.add_zero]at hrun;have hxs:xs=(cells J y2).toArray:=by rw[<-hcs,hx];simp
   subst hxs;refine⟨fun acc=>?_,⟨e2,i2⟩,?_,i3⟩
   ·rw[Nat.add_mul,Nat.one_mul,Nat.add_comm,yS,hrun,Result.andThen_ok];rw[show j*z+z=(j+1)*z by rw[Nat.add_mul,Nat.one_mul],i1]
    simp only[aR];congr 1
    apply Array.ext'
    simp[cells]
   ·cases y2<;>first|trivial| (simp[bp]at e3)
theorem zN{P:Program}{a:Addr}:∀(xs ys:List Value) (i:Nat) (w:World),(storeCells a (xs++ys) i).run P w=((storeCells a xs i).run P w).andThen fun _ w'=>(storeCells a ys (i+xs.length)).run P w'
 | [],ys,i,w=>by simp[storeCells]
 |x::xs,ys,i,w=>by
  simp only[List.cons_append,storeCells,Sem.run_bind];cases hv:(store (a.add i) x).run P w with
  |halt y w1=>simp[Result.andThen]
  |ok u w1=>
   simp only[Result.andThen_ok];rw[zN xs ys (i+1),show i+1+xs.length=i+(xs.length+1) by omega]
   rfl
theorem sV{a:Addr}(h:a.spot=none)(k:Nat):∀(xs:List Value) (i:Nat),storeCells (a.add k) xs i=storeCells a xs (k+i)
 | [],i=>rfl
 |x::xs,i=>by
  simp only[storeCells,add_add h,sV h k xs (i+1)];rfl
theorem xf{P:Program}{K:Nat->Prop}{t z:Nat}{v:V}{a:Addr}{len cap:Nat}(hz:iz P t=some z)(hk:ok K v)(hd:den J v= .slice (some a) len cap):
  ∀(l:List V) (j:Nat) (res res':List aI) (w:World),aQ J fps res K w0 F0 w->Kx P t z v j l res=some res'->cm K l->∃w',(storeCells a (aR J l) (j*z)).run P w= .ok () w'/\aQ J fps res' K w0 F0 w'/\∀i,known res' i↔known res i
 | [],j,res,res',w,h,hl,_=>by
   simp only[Kx,aa]at hl;subst hl;exact⟨w,by simp[aR,storeCells],h,fun _=>Iff.rfl⟩
 |y::l,j,res,res',w,h,hl,ho=>by
  simp only[Kx]at hl;split at hl
  case h_2=>simp at hl
  rename_i p hp;split at hl
  case h_2=>simp at hl
  rename_i res1 hr;obtain⟨p1,p2,p3⟩:=y8 hp hk hd;obtain⟨w1,e1,e2,e3⟩:=kB h hr p3 ho.1;obtain⟨w2,i1,i2,i3⟩:=xf hz hk hd l (j+1) res1 res' w1 e2 hl ho.2;have hlen:=aO J y ho.1
  have hy:bP y=z:=by
   simp_all[jW]
  rw[hy]at hlen;have hsz:(den J y).cells.size=z:=by rw[<-hlen];simp[cells]
  rw[p2]at e1;simp only[Instr.storeAt,Instr.sureAddr,Sem.run_bind,Sem.run_pure,Result.andThen_ok,storeVar,cE w hz,hsz,ne_eq,not_true_eq_false,if_false,Sem.run_ite]at e1;refine⟨w2,?_,i2,fun i=>(i3 i).trans (e3 i)⟩
  rw[sV p1,Nat.add_zero]at e1;simp only[aR];rw[zN,show(den J y).cells.toList.length=z from hlen];rw[show(storeCells a (den J y).cells.toList (j*z)).run P w= .ok () w1 from e1,Result.andThen_ok];rw[show j*z+z=(j+1)*z by rw[Nat.add_mul,Nat.one_mul]]
  exact i1
theorem Cx{C:Ctx}{res:List aI}{K:Nat->Prop}{ts:List Nat}{xs:List V}{ty:Nat}{r:V}{res':List aI}(h:aQ J fps res K w0 F0 w)(hl:Lr C res ts xs=some (r,res'))(hx:cm K xs):
  ∃w',(Builtin.copy_ ts.toArray ty (aV J xs).toArray).run C.P w= .ok (den J r) w'/\aQ J fps res' K w0 F0 w'/\(∀i,known res' i↔known res i)/\ok K r:=by
 unfold Lr at hl;split at hl
 ·simp_all[Dd]
 ·unfold LW at hl;split at hl
  case h_2=>simp at hl
  rename_i t t' d s;split at hl
  case h_2=>simp at hl
  rename_i e ht;split at hl
  case h_2=>simp at hl
  rename_i z a n m hz hag hn hm;split at hl
  case isFalse=>simp at hl
  rename_i hc;simp only[ah,ai]at hc;obtain⟨rfl,hin⟩:=hc;split at hl
  case h_2=>simp at hl
  rename_i l hr;split at hl<;>simp only[aa,ae,reduceCtorEq]at hl
  rename_i res1 hw;obtain⟨rfl,rfl⟩:=hl;obtain⟨hxd,hxs,_⟩:=hx;obtain⟨ad,cd,hd⟩:=zj (J:=J) hn;obtain⟨as,cs,hs⟩:=zj (J:=J) hm;obtain⟨r1,r2,r3⟩:=xe h hag hz hxs hs _ _ _ hr;obtain⟨w',e1,e2,e3⟩:=xf hz hxd hd l 0 res res1 w h hw r2;refine⟨w',?_,e2,e3,hin⟩;have r1:=r1 #[];simp only[Nat.zero_mul,Array.empty_append]at r1 e1;simp only[aV,hd,hs,Builtin.copy_,List.size_toArray,List.getElem?_toArray]
  simp only[List.getElem?_cons_zero,List.getElem?_cons_succ,Sem.run_bind,aT w ht,Result.andThen_ok,Builtin.lenOf,Sem.run_pure,cE w hz,Builtin.firstCells,loadCells,r1,e1,goInt,den]
theorem fq.after{U:St}{ρ':Env}{fps':Nat->Nat->Prop}{res':List aI}{w':World}(h:fq J fps U w0 F0 a w)(hH:aQ ρ' fps' res' (known res') w0 F0 w')(hg:Good J U.res ρ' res'):
  fq ρ' fps' {U with res:=res'} w0 F0 a w':=by
 obtain⟨h1,h2,h3,h4⟩:=h;obtain⟨e1,e2⟩:=bY h4 hg.1 hg.2;exact⟨h1.env hg.2 hg.1,hH,by rw[h3];exact e1.symm,e2⟩
def vn[Fen](P:Program)(Y:bJ)(ρ0:Env)(res0:List aI):Prop:=
 ∀k args res K KP,Y k args res K KP->∀J fps w0 F0 w,Good ρ0 res0 J res->aQ J fps res (known res) w0 F0 w->known res k->cm (known res) args->
  ∃l fn tmps assign body,(Instr.yield (J.num k) (aV J args).toArray).run P w= .ok (.round l fn tmps assign body) w/\
   ∀ro,RoundIn (FF P ro) 0 P l fn tmps assign body w fun e w'=>∃x ρ' fps' res',aQ ρ' fps' res' (known res') w0 F0 w'/\Good J res ρ' res'/\ok (known res') x/\
    ((e= .returned (den ρ' x)/\K x res')\/(e= .panicked [{v:=den ρ' x,recovered:=false}]/\KP x res'))
theorem vn.later[Fen]{P:Program}{Y:bJ}{ρ0 ρ1:Env}{res0 res1:List aI}(h:vn P Y ρ0 res0)(hg:Good ρ0 res0 ρ1 res1):vn P Y ρ1 res1:=
 fun k args res K KP hy J fps w0 F0 w hg1=>h k args res K KP hy J fps w0 F0 w (hg.trans hg1)
theorem HD[Fen]{P:Program}{ρ0:Env}{res0:List aI}:vn P LH ρ0 res0:=fun _ _ _ _ _ h=>h.elim
theorem yY[Fen]{o:Oper}{U:St}{ch:List (Nat×Bool)}{q:Option Prop}{x:V}{new:List aI}{K:St->Prop}{next:Act->World->Prop}{Q:Exit->Act->World->Prop}{ro:Option Nat}(hC:C.Sound)
  (ho:uC C U.slots U.res U.res.length ch o.op=some (q,x,new)) (hg:gx U.slots ch=true) (h:gZ U.slots o.dst (.v x) fun sl=>rV q (K {U with slots:=sl,res:=iY U.res new})) (hr:fq J fps U w0 F0 a w)
  (hn:∀σ' ρ' fps' a' w',K σ'->fq ρ' fps' σ' w0 F0 a' w'->Good J U.res ρ' σ'.res->next a' w'):o.uponIn (FF C.P ro) 0 C.P a next Q ((execOp a.eval o).run C.P w):=by
 obtain⟨h1,h2,h3,h4⟩:=hr;rw[fe]at h;split at h
 ·rename_i sl hsl;obtain⟨hq,hK⟩:=gm h;have hfr:∀k,k<new.length->¬known U.res (U.res.length+k):=fun k _ hk=>by have:=aK hk;omega
  obtain⟨hy,hnew⟩:=gN hC ho h1 h2 hg hq hfr;refine hy.wp fun v w' ⟨ρ',hg,hv,hx⟩=>?_
  have hfr':∀i,known U.res i->¬fresh U.res.length new.length i:=fun i hi hf=>by have:=aK hi;unfold fresh at hf;omega
  have hK':∀i,known U.res i\/fresh U.res.length new.length i->known (iY U.res new) i:=by
   intro i hi;rw[lP];obtain⟨b1,b2,b3⟩:=fj U.res new;rcases hi with hi|⟨f1,f2⟩
   ·unfold known;rw[(b1 i hi).1];exact hi
   ·have:=b3 (i-U.res.length) (by omega)
    rw[show U.res.length+(i-U.res.length)=i by omega]at this
    unfold known;rw[this];exact hnew _ (by omega)
  obtain⟨fps',g1,g2⟩:=h2.grow (res':=iY U.res new) (by rw[lP];exact fj _ _) hfr' hK' hg
  obtain⟨e1,e2⟩:=bY h4 g2 (fun i hi=>hK' i (.inl hi))
  refine hn _ ρ' fps' _ _ hK ⟨?_,g1,by rw[put_defers,h3];exact e1.symm,e2⟩ ⟨g2,fun i hi=>hK' i (.inl hi)⟩
  exact(h1.env (fun i hi=>hK' i (.inl hi)) g2).iB hsl fun _ _ _ _=>⟨hv,bE hK' _ hx⟩
 ·exact h.elim
theorem uf[Fen]{H:Handler}{Y:bJ}{o:Oper}{U:St}{ch:List (Nat×Bool)}{K:St->Prop}{KP:V->St->Prop}{next:Act->World->Prop}{Q:Exit->Act->World->Prop}{ro:Option Nat}(hC:C.Sound)(hH:H.OK C.P)(hY:vn C.P Y J U.res)
  (hd:ro≠none->bZ o) (hab:∀f,o.about C.P w a.eval=some f->(C.P.funcs[f]?).isSome=true) (h:EI C H Y U ch o K KP) (hg:gx U.slots ch=true) (hr:fq J fps U w0 F0 a w)
  (hn:∀σ' ρ' fps' a' w',K σ'->fq ρ' fps' σ' w0 F0 a' w'->Good J U.res ρ' σ'.res->next a' w')
  (hp:∀v σ' ρ' fps' w',KP v σ'->ok (known σ'.res) v->fq ρ' fps' σ' w0 F0 a w'->Good J U.res ρ' σ'.res->Q (.panic [{v:=den ρ' v,recovered:=false}]) a w'):
  o.wpIn (FF C.P ro) 0 C.P a w next Q:=by
 have hr0:=hr;obtain⟨h1,h2,h3,h4⟩:=hr;have ov:∀{o:Operand} {y:V},bS U.slots ch o=some y->a.eval o=den J y/\ok (known U.res) y:=fun ho=>dv h1 hg ho
 obtain⟨dst,op,type,pos,after,guard⟩:=o
 have fin:∀{v:V} {res':List aI} {ρ':Env} {fps':Nat->Nat->Prop} {w':World},gZ U.slots dst (.v v) (fun sl=>K {U with slots:=sl,res:=res'})->(execOp a.eval ⟨dst,op,type,pos,after,guard⟩).run C.P w= .ok (.value (den ρ' v)) w'->
   aQ ρ' fps' res' (known res') w0 F0 w'->Env.agree (known U.res) J ρ'->(∀i,known U.res i->known res' i)->ok (known res') v->Oper.wpIn (FF C.P ro) 0 C.P ⟨dst,op,type,pos,after,guard⟩ a w next Q:=by
  intro v res' ρ' fps' w' hK hrun g2 g3 g4 g5;rw[fe]at hK;split at hK
  ·rename_i sl hsl;refine cL hd hab ?_;rw[hrun];obtain⟨k1,k2,k3,k4⟩:=hr0.after g2 ⟨g3,g4⟩;exact hn _ ρ' fps' _ _ hK ⟨k1.iB hsl fun _ _ _ _=>⟨rfl,g5⟩,k2,by rw[put_defers];exact k3,k4⟩ ⟨g3,g4⟩
  ·exact hK.elim
 cases op<;>simp only[EI]at h
 case store t p x=>
  split at h
  ·rename_i pv xv hpv hxv;split at h
   ·rename_i res' hs;obtain⟨w',e1,e2,e3⟩:=kB h2 hs (ov hpv).2 (ov hxv).2
    have hrun:(execOp a.eval {dst:=none,op:= .store t p x,type,pos,after,guard}).run C.P w= .ok .skip w':=by
     simp[execOp,(ov hpv).1,(ov hxv).1,e1]
    refine cL hd hab ?_;rw[hrun]
    refine hn _ J fps _ _ h ⟨?_,e2.ki fun i hi=>(e3 i).2 hi,h3,fun d hd=>⟨br (fun i hi=>(e3 i).2 hi) _ (h4 d hd).1,br (fun i hi=>(e3 i).2 hi) _ (h4 d hd).2⟩⟩
     ⟨Env.agree.refl _ _,fun i hi=>(e3 i).2 hi⟩
    exact h1.env (fun i hi=>(e3 i).2 hi) (Env.agree.refl _ _)
   ·split at h
    ·rename_i q res' hs;obtain⟨hq,hK⟩:=gm h;obtain⟨w',ρ',fps',e1,e2,e3,e4⟩:=vG h2 hs hq (ov hpv).2 (ov hxv).2
     have hrun:(execOp a.eval {dst:=none,op:= .store t p x,type,pos,after,guard}).run C.P w= .ok .skip w':=by
      simp[execOp,(ov hpv).1,(ov hxv).1,e1]
     refine cL hd hab ?_;rw[hrun];obtain⟨d1,d2⟩:=bY h4 e3 e4;exact hn _ ρ' fps' _ _ hK ⟨h1.env e4 e3,e2,by rw[show(a.put none undef).defers=a.defers from rfl,h3];exact d1.symm,d2⟩ ⟨e3,e4⟩
    ·exact h.elim
  ·exact h.elim
 case insert t m k x=>
  split at h
  case h_2=>exact h.elim
  rename_i mv kv xv hmv hkv hxv
  obtain⟨res',hs,h⟩:∃res',(FW C.P U.res t mv kv xv=some res'\/FI C.P U.res t mv kv xv=some res')/\K {U with res:=res'}:=by
   grind
  obtain⟨w',e1,e2,e3⟩:∃w',(Instr.mapUpdate t (den J mv) (den J kv) (den J xv)).run C.P w= .ok () w'/\aQ J fps res' (known U.res) w0 F0 w'/\∀i,known res' i↔known U.res i:=by
   grind[AL,Aj]
  have hrun:(execOp a.eval {dst:=none,op:= .insert t m k x,type,pos,after,guard}).run C.P w= .ok .skip w':=by
   simp[execOp,(ov hmv).1,(ov hkv).1,(ov hxv).1,e1]
  refine cL hd hab ?_;rw[hrun]
  refine hn _ J fps _ _ h ⟨?_,e2.ki fun i hi=>(e3 i).2 hi,h3,fun d hd=>⟨br (fun i hi=>(e3 i).2 hi) _ (h4 d hd).1,br (fun i hi=>(e3 i).2 hi) _ (h4 d hd).2⟩⟩
   ⟨Env.agree.refl _ _,fun i hi=>(e3 i).2 hi⟩
  exact h1.env (fun i hi=>(e3 i).2 hi) (Env.agree.refl _ _)
 case mapEntry t m k=>
  split at h
  case h_2=>exact h.elim
  rename_i mv kv hm hk;split at h
  case h_2=>exact h.elim
  rename_i q v res' hs;obtain⟨hq,hK⟩:=gm h;obtain⟨w',e1,e2,e3,e4⟩:=B0 hC.z h2 hs hq (ov hk).2;have hm':∀i,known U.res i->known res' i:=fun i hi=>(e3 i).2 hi
  exact fin hK (by simp[execOp,(ov hm).1,(ov hk).1,e1]) (e2.ki hm') (Env.agree.refl _ _) hm' (bE hm' _ e4)
 case entryStore t m k x=>
  split at h
  case h_2=>exact h.elim
  rename_i mv kv xv hm hk hx;split at h
  case h_2=>exact h.elim
  rename_i q res' hs;obtain⟨hq,hK⟩:=gm h;obtain⟨w',e1,e2,e3⟩:=Dp (P:=C.P) (t:=t) h2 hs hq (ov hk).2 (ov hx).2
  have hrun:(execOp a.eval {dst:=none,op:= .entryStore t m k x,type,pos,after,guard}).run C.P w= .ok .skip w':=by
   simp[execOp,(ov hm).1,(ov hk).1,(ov hx).1,e1]
  refine cL hd hab ?_;rw[hrun]
  refine hn _ J fps _ _ hK ⟨?_,e2.ki fun i hi=>(e3 i).2 hi,h3,fun d hd=>⟨br (fun i hi=>(e3 i).2 hi) _ (h4 d hd).1,br (fun i hi=>(e3 i).2 hi) _ (h4 d hd).2⟩⟩
   ⟨Env.agree.refl _ _,fun i hi=>(e3 i).2 hi⟩
  exact h1.env (fun i hi=>(e3 i).2 hi) (Env.agree.refl _ _)
 case next it b=>
  split at h
  case isTrue=>exact h.elim
  rename_i hb;have hb:b=false:=by simpa using hb
  subst hb;split at h
  case h_2=>exact h.elim
  rename_i p hp';obtain⟨v,res',w',e1,e2,e3,e4,hK⟩:=Cj (P:=C.P) (ty:=type) h2 h;exact fin hK (by simp[execOp,(ov hp').1,e1]) e2 (Env.agree.refl _ _) (fun i hi=>(e3 i).2 hi) e4
 case slice t x lo hi mx=>
  split at h
  case h_2=>exact h.elim
  rename_i l;split at h
  case h_2=>exact h.elim
  rename_i xv lv hx hl;split at h
  case h_2=>exact h.elim
  rename_i q v res' hs;obtain⟨hq,hK⟩:=gm h;obtain⟨ρ',fps',e1,e2,e3,e4,e5⟩:=Df h2 hs hq;exact fin hK (by simp[execOp,(ov hx).1,(ov hl).1,e1]) e2 e3 e4 e5
 case panic x=>
  split at h
  ·rename_i t y hx;obtain⟨e1,e2⟩:=ov hx
   have hrun:(execOp a.eval {dst,op:= .panic x,type,pos,after,guard}).run C.P w= .halt (.panic (den J (.ic t y))) w:=by
    simp[execOp,e1,den,Instr.panic]
   refine cL hd hab ?_;rw[hrun];exact hp _ _ J fps w h e2 ⟨h1.clean,h2,h3,h4⟩ (Good.refl _ _)
  ·exact h.elim
 case call c=>
  split at h
  ·rename_i f hf
   have fnCall:∀(g:Nat) (caps vs:List V),a.eval f=xy g (aV J caps)->cm (known U.res) caps->gz U.slots ch c.args.toList=some vs->eo C.P (xx g)=true->H (xx g) (Fo g vs caps) U.res
     (fun x res'=>gZ U.slots dst (.v x) fun sl=>K {U with slots:=sl,res:=res'}) (fun x res'=>KP x {U with slots:=clean U.slots,res:=res'})->Oper.wpIn (FF C.P ro) 0 C.P ⟨dst,.call c,type,pos,after,guard⟩ a w next Q:=by
    intro g caps vs e1 e2' has hcall hh;obtain⟨e3,e4⟩:=di h1 hg has;have hca:=hH _ _ _ _ _ hh J fps w0 F0 w h2 (Hc e4 e2')
    have hrun:(execOp a.eval {dst,op:= .call c,type,pos,after,guard}).run C.P w= .ok (.enter (xx g) (aV J (Fo g vs caps)).toArray) w:=by
     obtain⟨callee,args,argTypes⟩:=c;simp only at hf;subst hf;unfold eo at hcall;split at hcall
     ·rename_i fn hfn;simp only[ah,bne_iff_ne,ne_eq]at hcall;have hnm:(fn.name== "runtime.NumGoroutine")=false:=by simpa using hcall.1
      have hbd:fn.body.isNone=false:=by
       simp_all
      have ha:args.map a.eval=(aV J vs).toArray:=by apply Array.ext';simp[e3]
      unfold xy at e1;unfold xx at hfn⊢;unfold Fo;cases hlo:Nat.blt g 2000 with
      |true=>
       simp only[hlo,if_true]at e1 hfn⊢;have hcat:(aV J vs).toArray++(aV J caps).toArray=(aV J (vs++caps)).toArray:=by simp[dY]
       simp only[execOp,resolve,e1,den,Deferred.ofValue,ha,Sem.run_bind,Sem.run_pure,Result.andThen_ok,invoke,callFunc,run_program,hfn,hnm,Bool.false_eq_true,if_false,hbd,
        Array.empty_append,hcat]
      |false=>
       simp only[hlo,Bool.false_eq_true,if_false]at e1 hfn⊢;have hcat:(aV J caps).toArray++(aV J vs).toArray=(aV J (caps++vs)).toArray:=by simp[dY]
       simp only[execOp,resolve,e1,den,Deferred.ofValue,ha,Sem.run_bind,Sem.run_pure,Result.andThen_ok,invoke,callFunc,run_program,hfn,hnm,Bool.false_eq_true,if_false,hbd,
        Array.append_empty,hcat]
     ·simp at hcall
    refine cL hd hab ?_;rw[hrun];refine⟨fun h=>by simp[FF]at h,CallsIn.mono (qR hca) fun e w' ⟨x,ρ',fps',res',g1,g2,g3,g4⟩=>?_⟩
    have hra:=hr0.after g1 g2;rcases g4 with⟨rfl,hK⟩|⟨rfl,hK⟩
    ·simp only;rw[fe]at hK;split at hK
     ·rename_i sl hsl;obtain⟨k1,k2,k3,k4⟩:=hra;exact hn _ ρ' fps' _ _ hK ⟨k1.iB hsl fun _ _ _ _=>⟨rfl,g3⟩,k2,by rw[put_defers];exact k3,k4⟩ g2
     ·exact hK.elim
    ·obtain⟨k1,k2,k3,k4⟩:=hra;exact hp _ _ ρ' fps' w' hK g3 ⟨k1.clean,k2,k3,k4⟩ g2
   split at h
   ·rename_i g caps vs hfv has;obtain⟨e1,e2⟩:=ov hfv;exact fnCall g caps vs e1 e2 has h.1 h.2
   ·rename_i b g caps y vs hfv has;obtain⟨e1,e2⟩:=ov hfv;obtain⟨g',caps',d1,d2,d3,d4⟩:=py (J:=J) _ h e2;exact fnCall g' caps' vs (e1.trans d1) d2 has d3 d4
   ·rename_i k vs hfv has;obtain⟨e1,e2⟩:=ov hfv;obtain⟨e3,e4⟩:=di h1 hg has;obtain⟨l,fn,tmps,assign,body,y1,y2⟩:=hY _ _ _ _ _ h J fps w0 F0 w (Good.refl _ _) h2 e2 e4;refine⟨fun f hf _=>hab f hf,?_⟩
    have hsem:Oper.semAt (FF C.P ro).round a.eval {dst,op:= .call c,type,pos,after,guard}=execOp a.eval {dst,op:= .call c,type,pos,after,guard}:=by
     show Oper.semAt ro _ _=_
     cases ro with
     |none=>exact Oper.semAt_none _ _
     |some l=>exact Oper.semAt_some l _ _ (fun c=>by simp)
    rw[hsem]
    have hrun:(execOp a.eval {dst,op:= .call c,type,pos,after,guard}).run C.P w= .ok (.round l fn tmps assign body) w:=by
     obtain⟨callee,args,argTypes⟩:=c;simp only at hf;subst hf;have ha:args.map a.eval=(aV J vs).toArray:=by apply Array.ext';simp[e3]
     simp only[execOp,resolve,e1,den,Deferred.ofValue,ha,Sem.run_bind,Sem.run_pure,Result.andThen_ok,invoke,callFunc,Array.empty_append,Array.append_empty];exact y1
    rw[hrun];refine⟨fun h=>by simp[FF]at h,RoundIn.mono (y2 ro) fun e w' ⟨x,ρ',fps',res',g1,g2,g3,g4⟩=>?_⟩
    have hra:=hr0.after g1 g2;rcases g4 with⟨rfl,hK⟩|⟨rfl,hK⟩
    ·simp only;rw[fe]at hK;split at hK
     ·rename_i sl hsl;obtain⟨k1,k2,k3,k4⟩:=hra;exact hn _ ρ' fps' _ _ hK ⟨k1.iB hsl fun _ _ _ _=>⟨rfl,g3⟩,k2,by rw[put_defers];exact k3,k4⟩ g2
     ·exact hK.elim
    ·obtain⟨k1,k2,k3,k4⟩:=hra;exact hp _ _ ρ' fps' w' hK g3 ⟨k1.clean,k2,k3,k4⟩ g2
   ·exact h.elim
  ·rename_i hcal;split at h
   ·rename_i t t' x y hts has;split at h
    ·rename_i htt;have htt:=aj.1 htt;subst htt;split at h
     ·rename_i q v res' hap;obtain⟨hq,hK⟩:=gm h;rw[fe]at hK;split at hK
      ·rename_i sl hsl;obtain⟨e3,e4⟩:=di h1 hg has;obtain⟨w',ρ',fps',g1,g2,g3,g4,g5⟩:=Ai (ty:=type) hC.z h2 hap hq e4.1 e4.2.1
       have hrun:(execOp a.eval {dst,op:= .call c,type,pos,after,guard}).run C.P w= .ok (.value (den ρ' v)) w':=by
        obtain⟨callee,args,argTypes⟩:=c;simp only at hcal hts e3;subst hcal;have ha:args.map a.eval= #[den J x,den J y]:=by apply Array.ext';simp[e3,aV]
        have hty:argTypes= #[t,t]:=by apply Array.ext';simpa using hts
        subst hty;simp only[execOp,resolve,Sem.run_bind,Sem.run_pure,Result.andThen_ok,invoke,builtin,ha];rw[g1];rfl
       refine cL hd hab ?_;rw[hrun];obtain⟨k1,k2,k3,k4⟩:=hr0.after g2 ⟨g3,g4⟩;exact hn _ ρ' fps' _ _ hK ⟨k1.iB hsl fun _ _ _ _=>⟨rfl,g5⟩,k2,by rw[put_defers];exact k3,k4⟩ ⟨g3,g4⟩
      ·exact hK.elim
     ·exact h.elim
    ·exact h.elim
   ·exact h.elim
  ·rename_i hcal;split at h
   case h_2=>exact h.elim
   rename_i vs has;split at h
   case h_2=>exact h.elim
   rename_i v res' hcp;rw[fe]at h;split at h
   case h_2=>exact h.elim
   rename_i sl hsl;obtain⟨e3,e4⟩:=di h1 hg has;obtain⟨w',g1,g2,g3,g5⟩:=Cx (ty:=type) h2 hcp e4
   have hrun:(execOp a.eval {dst,op:= .call c,type,pos,after,guard}).run C.P w= .ok (.value (den J v)) w':=by
    obtain⟨callee,args,argTypes⟩:=c;simp only at hcal e3;subst hcal;have ha:args.map a.eval=(aV J vs).toArray:=by apply Array.ext';simp[e3]
    simp only[execOp,resolve,Sem.run_bind,Sem.run_pure,Result.andThen_ok,invoke,builtin,ha];simp only[Array.toArray_toList]at g1;rw[g1];rfl
   refine cL hd hab ?_;rw[hrun];have hgd:Good J U.res J res':=⟨Env.agree.refl _ _,fun i hi=>(g3 i).2 hi⟩
   obtain⟨k1,k2,k3,k4⟩:=hr0.after (g2.ki fun i hi=>(g3 i).2 hi) hgd
   exact hn _ J fps _ _ h ⟨k1.iB hsl fun _ _ _ _=>⟨rfl,bE (fun i hi=>(g3 i).2 hi) _ g5⟩,k2,by rw[put_defers];exact k3,k4⟩ hgd
  ·rename_i hcal;split at h
   case h_2=>exact h.elim
   rename_i vs has;split at h
   case h_2=>exact h.elim
   rename_i res' hcp;rw[fe]at h;split at h
   case h_2=>exact h.elim
   rename_i sl hsl;obtain⟨e3,e4⟩:=di h1 hg has;obtain⟨w',g1,g2,g3⟩:=z7 (ty:=type) hC.z h2 hcp e4
   have hrun:(execOp a.eval {dst,op:= .call c,type,pos,after,guard}).run C.P w= .ok (.value (den J (.tp []))) w':=by
    obtain⟨callee,args,argTypes⟩:=c;simp only at hcal e3;subst hcal;have ha:args.map a.eval=(aV J vs).toArray:=by apply Array.ext';simp[e3]
    simp only[execOp,resolve,Sem.run_bind,Sem.run_pure,Result.andThen_ok,invoke,builtin,ha];simp only[Array.toArray_toList]at g1;rw[g1];rfl
   refine cL hd hab ?_;rw[hrun];have hgd:Good J U.res J res':=⟨Env.agree.refl _ _,fun i hi=>(g3 i).2 hi⟩
   obtain⟨k1,k2,k3,k4⟩:=hr0.after (g2.ki fun i hi=>(g3 i).2 hi) hgd
   exact hn _ J fps _ _ h ⟨k1.iB hsl fun _ _ _ _=>⟨rfl,trivial⟩,k2,by rw[put_defers];exact k3,k4⟩ hgd
  ·exact h.elim
 case defer c=>
  split at h
  ·rename_i f hf;split at h
   ·rename_i g caps vs hfv has;obtain⟨e1,e2⟩:=ov hfv;obtain⟨e3,e4⟩:=di h1 hg has;split at h
    case h_2=>exact h.elim
    rename_i hmk;split at h
    case isFalse=>exact h.elim
    rename_i hlo;have e1:a.eval f= .func (.func g) #[] (aV J caps).toArray:=e1.trans (r9 hlo)
    have hrun:(execOp a.eval {dst:=none,op:= .defer c,type,pos,after,guard}).run C.P w= .ok (.defer {target:= .fn (.func g) (aV J caps).toArray,args:=(aV J vs).toArray}) w:=by
     obtain⟨callee,args,argTypes⟩:=c;simp only at hf;subst hf;have ha:args.map a.eval=(aV J vs).toArray:=by apply Array.ext';simp[e3]
     simp[execOp,resolve,e1,den,Deferred.ofValue,ha]
    refine cL hd hab ?_;rw[hrun];refine hn _ J fps _ _ h ⟨h1,h2,by simp[Act.put,h3,fD,hmk],fun d hd=>?_⟩ (Good.refl _ _)
    rcases List.mem_cons.1 hd with rfl|hd
    ·exact⟨e4,e2⟩
    ·exact h4 d hd
   ·exact h.elim
  ·exact h.elim
theorem vE(ch:List (Nat×Bool)):∀(l:List S) (i t:Nat),bh (yU ch i l) t=ve ch (i+t) (bh l t)
 | [],i,t=>by simp[yU,bh,ve]
 |s::l,i,0=>by simp[yU,bh]
 |s::l,i,t+1=>by simp only[yU,bh];rw[vE ch l (i+1) t,show i+1+t=i+(t+1) by omega]
theorem sC(ch:List (Nat×Bool)):∀(l:List S) (i:Nat),(yU ch i l).length=l.length
 | [],_=>rfl
 |s::l,i=>by simp[yU,sC ch l]
theorem s7(q:Nat)(w:Bool):∀(l:List S) (i t:Nat),bh (wQ q w i l) t=fixF q w (i+t) (bh l t)
 | [],i,t=>by simp[wQ,bh,fixF]
 |s::l,i,0=>by simp[wQ,bh]
 |s::l,i,t+1=>by simp only[wQ,bh];rw[s7 q w l (i+1) t,show i+1+t=i+(t+1) by omega]
theorem pQ(q:Nat)(w:Bool):∀(l:List S) (i:Nat),(wQ q w i l).length=l.length
 | [],_=>rfl
 |s::l,i=>by simp[wQ,pQ q w l]
theorem rH:∀{ch:List (Nat×Bool)} {i:Nat} {w:Bool},pW ch i=some w->(i,w)∈ch
 | [],_,_,h=>by simp[pW]at h
 | (s,v)::c,i,w,h=>by
   simp only[pW]at h;split at h
   ·rename_i e;have e:=aj.1 e;simp only[aa]at h;subst e;subst h;simp
   ·exact List.mem_cons_of_mem _ (rH h)
theorem Cc{sl:List S}{ch:List (Nat×Bool)}(hg:gx sl ch=true)(t:Nat):raw (ve ch t (bh sl t))=raw (bh sl t):=by
 have key:∀w,pW ch t=some w->raw (bh sl t)=some w:=fun w hw=>(qj sl ch).1 hg (t,w) (rH hw)
 cases hs:bh sl t with
 |und=>rfl
 |ud=>rfl
 |v y=>
  rw[hs]at key;cases y<;>try rfl
  simp only[ve];cases hw:pW ch t with
  |none=>rfl
  |some w=>exact(key w hw).symm
 |gv c y=>
  rw[hs]at key;simp only[ve];split
  ·cases y<;>try rfl
   simp only;cases hw:pW ch t with
   |none=>rfl
   |some w=>exact(key w hw).symm
  ·rfl
theorem u3{sl sl':List S}(h:∀t,raw (bh sl' t)=raw (bh sl t)):∀c,gx sl' c=gx sl c
 | []=>rfl
 | (s,w)::c=>by rw[eg,eg,h,u3 h c]
theorem er.yU{K:Nat->Prop}{sl:List S}{ch:List (Nat×Bool)}(h:er J K sl a)(hg:gx sl ch=true):er J K (yU ch 0 sl) a:=by
 have hget:∀t,bh (Sx.yU ch 0 sl) t=ve ch t (bh sl t):=fun t=>by rw[vE,Nat.zero_add]
 have hraw:∀t,raw (bh (Sx.yU ch 0 sl) t)=raw (bh sl t):=fun t=>by rw[hget,Cc hg]
 refine⟨by rw[sC];exact h.1,fun t=>?_⟩
 rw[hget];have ht:=h.2 t;have key:∀w,pW ch t=some w->raw (bh sl t)=some w:=fun w hw=>(qj sl ch).1 hg (t,w) (rH hw)
 cases hs:bh sl t with
 |und=>trivial
 |ud=>rw[hs]at ht;exact ht
 |v y=>
  rw[hs]at ht key;cases y<;>try exact ht
  simp only[ve];cases hw:pW ch t with
  |none=>exact ht
  |some w=>
   have:=key w hw;simp only[raw,aa]at this;subst this;exact ht
 |gv c y=>
  rw[hs]at ht key;simp only[ve];split
  ·rename_i hsub;obtain⟨e1,e2⟩:=ht.1 (zu hsub hg);cases y<;>try exact⟨e1,e2⟩
   simp only;cases hw:pW ch t with
   |none=>exact⟨e1,e2⟩
   |some w=>
    have:=key w hw;simp only[raw,aa]at this;subst this;exact⟨e1,e2⟩
  ·exact⟨fun hgc=>ht.1 (by rwa [u3 hraw]at hgc),fun hgc=>ht.2 (by rwa [u3 hraw]at hgc)⟩
theorem er.KA{K:Nat->Prop}{sl:List S}{ch:List (Nat×Bool)}(h:er J K sl a)(hg:gx sl ch=false):er J K (KA ch sl) a:=by
 unfold Sx.KA;split
 ·rename_i q w;split
  ·rename_i b hq
   have hb:b= !w:=by
    grind[eg,raw,gx]
   refine⟨by rw[pQ];exact h.1,fun t=>?_⟩
   rw[s7,Nat.zero_add];have ht:=h.2 t;cases hs:bh sl t with
   |und=>trivial
   |ud=>rw[hs]at ht;exact ht
   |v y=>
    rw[hs]at ht;cases y<;>try exact ht
    simp only[fixF];split
    ·rename_i e;have e:=aj.1 e;subst e;rw[hq]at hs;simp only[S.v.injEq,V.bo.injEq]at hs;subst hs;rw[<-hb];exact ht
    ·exact ht
   |gv c y=>
    rw[hs]at ht;simp only[fixF];split
    ·rename_i hc;refine ht.2 ?_;cases hgc:gx sl c with
     |false=>rfl
     |true=>
      simp only[zg,List.any_eq_true,ah,aj]at hc;obtain⟨p,hp,e1,e2⟩:=hc;have:=(qj sl c).1 hgc p hp;rw[e1,e2,hq]at this;simp only[raw,aa]at this;rw[this]at hb;cases w<;>simp at hb
    ·trivial
  ·exact h
 ·exact h
theorem fP[Fen]{H:Handler}{Y:bJ}{ops:Array Oper}{o:Oper}{U:St}{K:St->Prop}{KP:V->St->Prop}{next:Act->World->Prop}{Q:Exit->Act->World->Prop}{ro:Option Nat}(hC:C.Sound)(hH:H.OK C.P)(hY:vn C.P Y J U.res)
  (hd:ro≠none->bZ o) (h:ri C H Y ops.toList o U K KP) (hr:fq J fps U w0 F0 a w)
  (hn:∀σ' ρ' fps' a' w',K σ'->fq ρ' fps' σ' w0 F0 a' w'->Good J U.res ρ' σ'.res->next a' w')
  (hp:∀v σ' ρ' fps' w',KP v σ'->ok (known σ'.res) v->fq ρ' fps' σ' w0 F0 a w'->Good J U.res ρ' σ'.res->Q (.panic [{v:=den ρ' v,recovered:=false}]) a w'):
  (∀f,o.about C.P w a.eval=some f->(FF C.P ro).fn f)/\if Region.wanted o (yielded ops a.tmps)then o.wpIn (FF C.P ro) 0 C.P a w next Q else next (a.put o.dst undef) w:=by
 have hr0:=hr;obtain⟨h1,h2,h3,h4⟩:=hr
 have skip:(gZ U.slots o.dst .ud fun sl=>K {U with slots:=sl})->next (a.put o.dst undef) w:=fun h=>by
  rw[fe]at h;split at h
  ·rename_i sl hsl;exact hn _ J fps _ _ h ⟨h1.iB hsl fun _ _ _ _=>rfl,h2,by rw[put_defers];exact h3,h4⟩ (Good.refl _ _)
  ·exact h.elim
 unfold ri at h;split at h
 case isFalse=>exact h.elim
 rename_i hab;have hab:=vZ h1 hab w;refine⟨fun f hf _=>hab f hf,?_⟩
 split at h
 ·exact h.elim
 ·rename_i hc;rw[gC h1 hc];simp only[p6,Bool.false_eq_true,if_false];exact skip h
 ·rename_i ch hc;rw[gC h1 hc];rw[show p6 U.slots (some ch)=gx U.slots ch from rfl];split at h
  ·rename_i q x new ho;split at h
   ·rename_i hch;have hch:ch= []:=by simpa using hch
    subst hch;simp only[gx,if_true];exact cL hd hab (yY hC ho rfl h hr0 hn)
   ·split at h
    ·rename_i hne;have hne:new= []:=by simpa using hne
     subst hne;rw[fe]at h;split at h
     ·rename_i sl hsl;obtain⟨hq,hK⟩:=xt h;by_cases hgo:gx U.slots ch=true
      ·rw[au hgo];obtain⟨hy,_⟩:=gN hC ho h1 h2 hgo (hq hgo) fun k hk=>by simp at hk
       refine cL hd hab (hy.wp fun v w' ⟨ρ',hg,hv,hx⟩=>?_)
       have hfr':∀i,known U.res i->¬fresh U.res.length ([]:List aI).length i:=fun i hi hf=>by unfold fresh at hf;simp at hf;omega
       have hK':∀i,known U.res i\/fresh U.res.length ([]:List aI).length i->known U.res i:=fun i hi=>by
        grind[fresh]
       obtain⟨fps',g1,g2⟩:=h2.grow (res':=U.res) (by have:=fj U.res [];simpa using this) hfr' hK' hg
       obtain⟨e1,e2⟩:=bY h4 g2 (fun i hi=>hi)
       refine hn _ ρ' fps' _ _ hK ⟨?_,g1,by rw[put_defers,h3];exact e1.symm,e2⟩ ⟨g2,fun i hi=>hi⟩
       refine(h1.env (fun i hi=>hi) g2).iB hsl fun d hd hf hnm=>⟨fun _=>⟨hv,bE hK' _ hx⟩,fun hgf=>?_⟩
       rw[nc (hnm ch x rfl),hgo]at hgf;simp at hgf
      ·rw[ar hgo];refine hn _ J fps _ _ hK ⟨?_,h2,by rw[put_defers];exact h3,h4⟩ (Good.refl _ _)
       refine h1.iB hsl fun d hd hf hnm=>⟨fun hgt=>?_,fun _=>rfl⟩
       rw[nc (hnm ch x rfl)]at hgt;exact absurd hgt hgo
     ·exact h.elim
    ·obtain⟨ht,hf⟩:=h;split
     ·rename_i hgo;exact cL hd hab (yY hC ho hgo (ht hgo) hr0 hn)
     ·rename_i hgo;exact skip (hf (by simpa using hgo))
  ·split at h
   ·grind[gx,uf]
   ·obtain⟨ht,hf⟩:=h;simp only[nR]at ht hf;split
    ·rename_i hgo;exact uf (U:= {U with slots:=yU ch 0 U.slots}) hC hH hY hd hab (ht hgo) rfl ⟨h1.yU hgo,h2,h3,h4⟩ hn hp
    ·rename_i hgo;have hf:=hf (by simpa using hgo)
     rw[fe]at hf;split at hf
     ·rename_i sl hsl;exact hn _ J fps _ _ hf ⟨(h1.KA (by simpa using hgo)).iB hsl fun _ _ _ _=>rfl,h2,by rw[put_defers];exact h3,h4⟩ (Good.refl _ _)
     ·exact hf.elim
end
end Go.Sx
namespace Go.Sx
open Go.RowKit (Below)
def dJ:List Prop->Prop
 | []=>True
 | [p]=>p
 |p::l=>p/\dJ l
theorem ou:∀l:List Prop,dJ l↔ ∀p∈l,p
 | []=>by simp[dJ]
 | [p]=>by simp only[dJ,List.mem_singleton];exact⟨fun h q hq=>hq▸h,fun h=>h p rfl⟩
 |p::q::l=>by
  have:=ou (q::l);simp only[dJ,List.mem_cons,forall_eq_or_imp]at this⊢;rw[this]
def jm(a b:Option (List Prop)):Option (List Prop):=
 match a,b with
 |some x,some y=>some (x++y)
 |_,_=>none
def gi(b:Bool)(l:List Prop):Option (List Prop):=if b then some l else none
mutual
def pd:V->V->Option (List Prop)
 | .cb a,.cb b=>some [a=b]
 | .cb a,.bo b=>some [a=b]
 | .bo a,.cb b=>some [a=b]
 | .bo a,.bo b=>some [a=b]
 | .ci k a,.ci k' b=>gi (k==k'&&decide (a=b)) []
 | .ci k a,.it k' b=>gi (k==k') [a=b]
 | .it k a,.ci k' b=>gi (k==k') [a=b]
 | .it k a,.it k' b=>gi (k==k') [a=b]
 | .bt a,.bt b=>some [a=b]
 | .st a,.st b=>some [a=b]
 | .nl a,.nl b=>some [a=b]
 | .lp i o,.lp i' o'=>gi (i==i'&&o==o') []
 | .lx a b c d i e,.lx a' b' c' d' i' e'=>gi (a==a'&&b==b'&&c==c'&&e==e') [d=d',i=i']
 | .sc i n c,.sc i' n' c'=>gi (i==i') [n=n',c=c']
 | .so i n,.so i' n'=>gi (i==i') [n=n']
 | .ap i e j o,.ap i' e' j' o'=>gi (i==i'&&e==e'&&o==o') [j=j']
 | .sa i,.sa i'=>gi (i==i') []
 | .op i n,.op i' n'=>gi (i==i') [n=n']
 | .yl i,.yl i'=>gi (i==i') []
 | .mp i,.mp i'=>gi (i==i') []
 | .fn f l,.fn g m=>if f==g then lf l m else none
 | .ic t x,.ic u y=>if t==u then pd x y else none
 | .ag l,.ag m=>lf l m
 | .tp l,.tp m=>lf l m
 | .key a,.key b=>some [a=b]
 | .sl a,.sl b=>some [a=b]
 | .by a,.by b=>some [a=b]
 | .ob a,.ob b=>some [a=b]
 |_,_=>none
def lf:List V->List V->Option (List Prop)
 | [],[]=>some []
 |x::l,y::m=>jm (pd x y) (lf l m)
 |_,_=>none
end
def nA(J:Env)(K:Nat->Prop)(x y:V):Prop:=den J x=den J y/\(ok K x->ok K y)/\bp x=bp y
def Ju(J:Env)(K:Nat->Prop)(x y:List V):Prop:=aV J x=aV J y/\aR J x=aR J y/\(cm K x->cm K y)/\(oE x->oE y)
theorem nA.refl(J:Env)(K:Nat->Prop)(x:V):nA J K x x:=⟨rfl,id,rfl⟩
theorem eI{a b:Option (List Prop)}{l:List Prop}(h:jm a b=some l)(hl:dJ l):∃x y,a=some x/\b=some y/\dJ x/\dJ y:=by
 unfold jm at h;split at h<;>simp only[aa,reduceCtorEq]at h
 rename_i x y;subst h;rw[ou]at hl;exact⟨x,y,rfl,rfl,(ou x).2 fun p hp=>hl p (List.mem_append.2 (.inl hp)),(ou y).2 fun p hp=>hl p (List.mem_append.2 (.inr hp))⟩
theorem cc{b:Bool}{l m:List Prop}(h:gi b l=some m):b=true/\m=l:=by
 unfold gi at h;split at h<;>simp_all
mutual
theorem lB(J:Env)(K:Nat->Prop):∀(x y:V) (l:List Prop),pd x y=some l->dJ l->nA J K x y
 | .fn f l,y,m,h,hl=>by
   cases y<;>simp only[pd,reduceCtorEq]at h
   split at h
   ·rename_i he;have he:=aj.1 he;subst he;obtain⟨a,_,c,_⟩:=fU J K _ _ _ h hl;exact⟨by simp only[den,a],c,rfl⟩
   ·simp at h
 | .ic t x,y,m,h,hl=>by
   cases y<;>simp only[pd,reduceCtorEq]at h
   split at h
   ·rename_i he;have he:=aj.1 he;subst he;obtain⟨a,c,_⟩:=lB J K _ _ _ h hl;exact⟨by simp only[den,a],c,rfl⟩
   ·simp at h
 | .ag l,y,m,h,hl=>by
   cases y<;>simp only[pd,reduceCtorEq]at h
   obtain⟨_,b,c,d⟩:=fU J K _ _ _ h hl;exact⟨by simp only[den,b],fun hh=>⟨c hh.1,d hh.2⟩,rfl⟩
 | .tp l,y,m,h,hl=>by
   cases y<;>simp only[pd,reduceCtorEq]at h
   obtain⟨a,_,c,_⟩:=fU J K _ _ _ h hl;exact⟨by simp only[den,a],c,rfl⟩
 | .lp i o,y,m,h,hl=>by
   cases y<;>simp only[pd,reduceCtorEq]at h
   obtain⟨hb,rfl⟩:=cc h;simp only[ah,aj]at hb;obtain⟨rfl,rfl⟩:=hb;exact nA.refl _ _ _
 | .ax _ _ _ _ _ _ _ _,y,m,h,hl=>by cases y<;>simp[pd]at h
 | .bs _ _ _,y,m,h,hl=>by cases y<;>simp[pd]at h
 | .ks _ _ _ _ _,y,m,h,hl=>by cases y<;>simp[pd]at h
 | .vw _ _ _ _,y,m,h,hl=>by cases y<;>simp[pd]at h
 | .sa i,y,m,h,hl=>by
   cases y<;>simp only[pd,reduceCtorEq]at h
   obtain⟨hb,rfl⟩:=cc h;have hb:=aj.1 hb;subst hb;exact nA.refl _ _ _
 | .mp i,y,m,h,hl=>by
   cases y<;>simp only[pd,reduceCtorEq]at h
   obtain⟨hb,rfl⟩:=cc h;have hb:=aj.1 hb;subst hb;exact nA.refl _ _ _
 | .yl i,y,m,h,hl=>by
   cases y<;>simp only[pd,reduceCtorEq]at h
   obtain⟨hb,rfl⟩:=cc h;have hb:=aj.1 hb;subst hb;exact nA.refl _ _ _
 | .lx a b c d i e,y,m,h,hl=>by
   cases y<;>simp only[pd,reduceCtorEq]at h
   obtain⟨hb,rfl⟩:=cc h;simp only[ah,aj]at hb;obtain⟨⟨⟨rfl,rfl⟩,rfl⟩,rfl⟩:=hb;simp only[dJ]at hl;obtain⟨rfl,rfl⟩:=hl;exact nA.refl _ _ _
 | .sc i n c,y,m,h,hl=>by
   cases y<;>simp only[pd,reduceCtorEq]at h
   obtain⟨hb,rfl⟩:=cc h;have hb:=aj.1 hb;subst hb;simp only[dJ]at hl;obtain⟨rfl,rfl⟩:=hl;exact nA.refl _ _ _
 | .op i n,y,m,h,hl=>by
   cases y<;>simp only[pd,reduceCtorEq]at h
   obtain⟨hb,rfl⟩:=cc h;have hb:=aj.1 hb;subst hb;simp only[dJ]at hl;subst hl;exact nA.refl _ _ _
 | .so i n,y,m,h,hl=>by
   cases y<;>simp only[pd,reduceCtorEq]at h
   obtain⟨hb,rfl⟩:=cc h;have hb:=aj.1 hb;subst hb;simp only[dJ]at hl;subst hl;exact nA.refl _ _ _
 | .ap i e j o,y,m,h,hl=>by
   cases y<;>simp only[pd,reduceCtorEq]at h
   obtain⟨hb,rfl⟩:=cc h;simp only[ah,aj]at hb;obtain⟨⟨rfl,rfl⟩,rfl⟩:=hb;simp only[dJ]at hl;subst hl;exact nA.refl _ _ _
 | .ci k a,y,m,h,hl=>by
   cases y<;>simp only[pd,reduceCtorEq]at h<;>obtain⟨hb,rfl⟩:=cc h
   ·simp only[ah,aj,ai]at hb;obtain⟨rfl,rfl⟩:=hb;exact⟨rfl,id,rfl⟩
   ·have hb:=aj.1 hb;subst hb;simp only[dJ]at hl;subst hl;exact⟨rfl,id,rfl⟩
 | .it k a,y,m,h,hl=>by
   cases y<;>simp only[pd,reduceCtorEq]at h<;>obtain⟨hb,rfl⟩:=cc h<;>have hb:=aj.1 hb<;>subst hb<;>simp only[dJ]at hl<;>subst hl<;>exact⟨rfl,id,rfl⟩
 | .cb a,y,m,h,hl| .bo a,y,m,h,hl| .bt a,y,m,h,hl| .st a,y,m,h,hl| .nl a,y,m,h,hl| .key a,y,m,h,hl| .sl a,y,m,h,hl| .by a,y,m,h,hl| .ob a,y,m,h,hl=>by
   cases y<;>simp only[pd,reduceCtorEq,aa]at h<;>subst h<;>simp only[dJ]at hl<;>subst hl<;>exact⟨rfl,id,rfl⟩
theorem fU(J:Env)(K:Nat->Prop):∀(x y:List V) (l:List Prop),lf x y=some l->dJ l->Ju J K x y
 | [],[],_,_,_=>⟨rfl,rfl,id,id⟩
 | [],_::_,_,h,_=>by simp[lf]at h
 |_::_,[],_,h,_=>by simp[lf]at h
 |x::l,y::m,p,h,hp=>by
  simp only[lf]at h;obtain⟨a,b,h1,h2,h3,h4⟩:=eI h hp;obtain⟨e1,e2,e3⟩:=lB J K x y a h1 h3;obtain⟨f1,f2,f3,f4⟩:=fU J K l m b h2 h4;refine⟨by simp only[aV,e1,f1],by simp only[aR,e1,f2],fun hh=>⟨e2 hh.1,f3 hh.2⟩,fun hh=>?_⟩
  rw[bX]at hh⊢;intro z hz;rcases List.mem_cons.1 hz with rfl|hz
  ·rw[<-e3];exact hh x (by simp)
  ·exact(bX _).1 (f4 ((bX _).2 fun q hq=>hh q (by simp[hq]))) z hz
end
def ez(res:List aI)(i:Nat):Bool:=
 match aH res i with
 | .yet=>false
 |_=>true
theorem ck{res:List aI}{i:Nat}:ez res i=true↔known res i:=by
 unfold ez known;cases aH res i<;>simp
mutual
def within(res:List aI):V->Bool
 | .lp i _=>ez res i
 | .lx i _ _ _ _ _=>ez res i
 | .sc i _ _=>ez res i
 | .so i _=>ez res i
 | .ap i _ _ _=>ez res i
 | .ax i _ _ _ _ _ _ _=>ez res i
 | .sa i=>ez res i
 | .op i _=>ez res i
 | .yl i=>ez res i
 | .mp i=>ez res i
 | .ch _ _ l y=>fZ res l&&within res y
 | .bs x _ _=>within res x
 | .ks x _ _ _ _=>within res x
 | .vw i _ _ _=>ez res i
 | .fn _ l=>fZ res l
 | .ic _ x=>within res x
 | .ag l=>fZ res l
 | .tp l=>fZ res l
 |_=>true
def fZ(res:List aI):List V->Bool
 | []=>true
 |x::l=>within res x&&fZ res l
end
mutual
theorem eG{res:List aI}{K:Nat->Prop}:∀v,within res v=true->ok K v->ok (known res) v
 | .lp i _,h,_| .sc i _ _,h,_| .so i _,h,_| .ap i _ _ _,h,_| .sa i,h,_| .op i _,h,_| .yl i,h,_| .mp i,h,_| .vw i _ _ _,h,_=>ck.1 (by simpa[within]using h)
 | .bs x _ _,h,hk=>⟨eG x (by simpa only[within]using h) hk.1,hk.2⟩
 | .ks x _ _ _ _,h,hk=>⟨eG x (by simpa only[within]using h) hk.1,hk.2⟩
 | .ch _ _ l y,h,hk=>by
   simp only[within,ah]at h;exact⟨dD l h.1 hk.1,eG y h.2 hk.2.1,hk.2.2⟩
 | .lx i _ _ _ _ _,h,hk=>⟨ck.1 (by simpa[within]using h),hk.2⟩
 | .ax i _ _ _ _ _ _ _,h,hk=>⟨ck.1 (by simpa[within]using h),hk.2⟩
 | .fn _ l,h,hk=>dD l (by simpa[within]using h) hk
 | .tp l,h,hk=>dD l (by simpa[within]using h) hk
 | .ag l,h,hk=>⟨dD l (by simpa[within]using h) hk.1,hk.2⟩
 | .ic _ x,h,hk=>eG x (by simpa[within]using h) hk
 | .cb _,_,h| .bo _,_,h| .ci _ _,_,h| .it _ _,_,h| .bt _,_,h| .st _,_,h| .nl _,_,h| .key _,_,h| .sl _,_,h| .by _,_,h| .ob _,_,h=>h
theorem dD{res:List aI}{K:Nat->Prop}:∀l,fZ res l=true->cm K l->cm (known res) l
 | [],_,_=>trivial
 |x::l,h,hk=>by
  simp only[fZ,ah]at h;exact⟨eG x h.1 hk.1,dD l h.2 hk.2⟩
end
def gj(res:List aI):List S->List S->Option (List Prop)
 | [],[]=>some []
 |x::l,y::m=>match y with
  | .und=>gj res l m
  | .v b=>match x with
    | .v a=>if within res b then jm (pd a b) (gj res l m)else none
    |_=>none
  |_=>none
 |_,_=>none
def Hk:TL->TL->Option (List Prop)
 | .fn n g,.fn n' g'=>some [n=n',g=g']
 | .ob a,.ob b=>some [a=b]
 | .key a,.key b=>some [a=b]
 | .it k a,.it k' b=>gi (k==k') [a=b]
 | .bo a,.bo b=>some [a=b]
 | .st a,.st b=>some [a=b]
 | .qs n a,.qs m b=>gi (n==m) [a=b]
 |_,_=>none
theorem Ap{a b:TL}{p:List Prop}(h:Hk a b=some p)(hp:dJ p):a=b:=by
 cases a<;>cases b<;>simp only[Hk,aa,reduceCtorEq]at h
 ·subst h;simp only[dJ]at hp;obtain⟨rfl,rfl⟩:=hp;rfl
 ·subst h;simp only[dJ]at hp;subst hp;rfl
 ·subst h;simp only[dJ]at hp;subst hp;rfl
 ·grind[cc,dJ]
 ·subst h;simp only[dJ]at hp;subst hp;rfl
 ·subst h;simp only[dJ]at hp;subst hp;rfl
 ·grind[cc,dJ]
def zG(o' o:Option Nat):Bool:=match o with
 |none=>true
 |some e=>match o' with
  |some e'=>e==e'
  |none=>false
def vj:LoopState->LoopState->Bool
 | .ready,.ready=>true
 | .busy,.busy=>true
 | .done,.done=>true
 | .exhausted,.exhausted=>true
 |_,_=>false
theorem sR{a b:LoopState}(h:vj a b=true):a=b:=by cases a<;>cases b<;>first|rfl|simp[vj]at h
def j7(all:List aI):aI->aI->Option (List Prop)
 |x,.yet=>some []
 |x,.gone=>match x with
  | .yet=>none
  |_=>some []
 |x,.blk t c=>match x with
  | .blk t' c'=>if t==t'&&within all c then pd c' c else none
  |_=>none
 |x,.arr o e g=>match x with
  | .arr o' e' g'=>if e==e'&&zG o' o then Hk g' g else none
  |_=>none
 |x,.obs t q L=>match x with
  | .obs t' q' L'=>if t==t'&&q==q'&&ez all q then some [L'=L]else none
  |_=>none
 |x,.gen j=>match x with
  | .gen j'=>if j==j' then some []else none
  |_=>none
 |x,.store t e L=>match x with
  | .store t' e' L'=>if t==t'&&e==e' then some [L'=L]else none
  |_=>none
 |x,.lop r s j=>match x with
  | .lop r' s' j'=>match j with
    |none=>match j' with
     |none=>if vj s' s then some [r'=r]else none
     |some _=>none
    |some _=>none
  |_=>none
 |x,.dfr=>match x with
  | .dfr=>some []
  |_=>none
 |x,.pin=>match x with
  | .pin=>some []
  |_=>none
 |x,.mp k ks vs=>match x with
  | .mp k' ks' vs'=>if k==k'&&fZ all vs then jm (some [ks'=ks]) (lf vs' vs)else none
  |_=>none
 |_,.mq _ _=>none
 |x,.ms n D=>match x with
  | .ms n' D'=>if n==n' then some [D'=D]else none
  |_=>none
 |x,.mi m n S=>match x with
  | .mi m' n' S'=>if m==m'&&ez all m then some [n'=n,S'=S]else none
  |_=>none
 |x,.que t e g=>match x with
  | .que t' e' g'=>if t==t'&&e==e' then some [g'=g]else none
  |_=>none
 |x,.cset t e n s D Q=>match x with
  | .cset t' e' n' s' D' Q'=>if t==t'&&e==e'&&n==n' then(match s with
    | .lp k o=>match s' with
      | .lp k' o'=>if k==k'&&o==o'&&ez all k then some [D'=D,Q'=Q]else none
      |_=>none
    |_=>none)else none
  |_=>none
 |x,.ro y=>match x with
  | .ro x=>match y with
    | .yet=>none
    |_=>j7 all x y
  |_=>none
def lz(all:List aI):List aI->List aI->Option (List Prop)
 |_,[]=>some []
 |x::l,y::m=>match y with
  | .yet=>lz all l m
  |_=>jm (j7 all x y) (lz all l m)
 | [],y::m=>match y with
   | .yet=>lz all [] m
   |_=>none
def lN(res:List aI):List (Nat×List V×List V)->List (Nat×List V×List V)->Option (List Prop)
 | [],[]=>some []
 | (f,a,b)::l,(g,c,d)::m=>if f==g&&fZ res c&&fZ res d then jm (jm (lf a c) (lf b d)) (lN res l m)else none
 |_,_=>none
def Lb(U τ:St):Option (List Prop):=
 jm (gj τ.res U.slots τ.slots) (jm (lz τ.res U.res τ.res) (lN τ.res U.defs τ.defs))
def Sub(U τ:St):Prop:=
 match Lb U τ with
 |some l=>dJ l
 |none=>False
section
variable {J:Env} {fps:Nat->Nat->Prop} {w0 w:World} {F0:Nat->Prop} {a:Act}
def uv(J:Env)(K:Nat->Prop)(x:Value):S->Prop
 | .und=>True
 | .v b=>x=den J b/\ok K b
 |_=>False
theorem uv.ok{K:Nat->Prop}{sl:List S}{x:Value}{s:S}(h:uv J K x s):du J K sl x s:=by
 cases s with
 |und=>trivial
 |v b=>exact h
 |ud=>exact h.elim
 |gv ch b=>exact h.elim
theorem mF{K:Nat->Prop}{res:List aI}{sl0:List S}:∀(l m:List S) (p:List Prop),gj res l m=some p->dJ p->l.length=m.length/\
  ∀t x,du J K sl0 x (bh l t)->uv J (known res) x (bh m t)
 | [],[],_,_,_=>⟨rfl,fun t x _=>by simp[bh,uv]⟩
 | [],_::_,_,h,_=>by simp[gj]at h
 |_::_,[],_,h,_=>by simp[gj]at h
 |x::l,y::m,p,h,hp=>by
  have key:∀(q:List Prop),gj res l m=some q->dJ q->(∀z,du J K sl0 z x->uv J (known res) z y)->
    (x::l).length=(y::m).length/\∀t z,du J K sl0 z (bh (x::l) t)->uv J (known res) z (bh (y::m) t):=by
   intro q hq hq' hz;obtain⟨e1,e2⟩:=mF l m q hq hq';refine⟨by simp[e1],fun t z hh=>?_⟩
   cases t with
   |zero=>exact hz z hh
   |succ t=>exact e2 t z hh
  simp only[gj]at h;split at h
  ·exact key p h hp fun _ _=>trivial
  ·rename_i b;split at h
   ·rename_i a';split at h
    ·rename_i hw;obtain⟨u,v,h1,h2,h3,h4⟩:=eI h hp;refine key v h2 h4 fun z hz=>?_
     obtain⟨e1,e2,_⟩:=lB J K a' b u h1 h3;exact⟨hz.1.trans e1,eG b hw (e2 hz.2)⟩
    ·simp at h
   ·simp at h
  ·simp at h
theorem uw{K:Nat->Prop}{all:List aI}:∀(x y:aI) (p:List Prop),j7 all x y=some p->dJ p->y≠ .yet->x≠ .yet/\∀j fp w0 F0 w,x.holds K J j fp w0 F0 w->y.holds (known all) J j fp w0 F0 w
 |x,.yet,p,h,hp,hy=>absurd rfl hy
 |x,.gone,p,h,hp,hy=>by
  unfold j7 at h;split at h
  ·simp at h
  ·rename_i hx;exact⟨hx,fun _ _ _ _ _ _=>trivial⟩
 |x,.blk t c,p,h,hp,hy=>by
  unfold j7 at h;split at h
  ·rename_i t' c';split at h
   ·rename_i hc;simp only[ah,aj]at hc;obtain⟨rfl,hw⟩:=hc;refine⟨by simp,fun j fp w0 F0 w hh=>?_⟩
    obtain⟨e1,e2,e3⟩:=lB J K c' c p h hp;obtain⟨g1,g2,g3,g4⟩:=hh;exact⟨eG c hw (e2 g1),by rw[<-e3];exact g2,g3,by rw[g4];simp only[cells,e1]⟩
   ·simp at h
  ·simp at h
 |x,.arr o e g,p,h,hp,hy=>by
  unfold j7 at h;split at h
  ·rename_i o' e' g';split at h
   ·rename_i hc;simp only[ah,aj]at hc;obtain⟨rfl,hc2⟩:=hc;have:=Ap h hp;subst this;refine⟨by simp,fun j fp w0 F0 w hh=>?_⟩
    obtain⟨a1,a2,a3,a4,a5,a6,a7⟩:=hh;refine⟨a1,a2,a3,a4,a5,a6,?_⟩;rcases a7 with⟨b1,b2⟩|⟨x,b1,b2⟩
    ·refine .inl ⟨?_,b2⟩;subst b1;cases o with
     |none=>rfl
     |some z=>simp[zG]at hc2
    ·refine .inr ⟨x,fun z hz=>?_,b2⟩
     subst hz;cases o' with
     |none=>simp[zG]at hc2
     |some y=>
      have:=b1 y rfl;simp only[zG,aj]at hc2;omega
   ·simp at h
  ·simp at h
 |x,.obs t q L,p,h,hp,hy=>by
  unfold j7 at h;split at h
  ·split at h
   ·rename_i hc;simp only[ah,aj]at hc;obtain⟨⟨rfl,rfl⟩,hkq⟩:=hc;simp only[aa]at h;subst h;simp only[dJ]at hp;subst hp;exact⟨by simp,fun j fp w0 F0 w hh=>⟨ck.1 hkq,hh.2⟩⟩
   ·simp at h
  ·simp at h
 |x,.gen j,p,h,hp,hy=>by
  unfold j7 at h;split at h
  ·exact⟨by simp,fun _ _ _ _ _ _=>trivial⟩
  ·simp at h
 |x,.store t e L,p,h,hp,hy=>by
  unfold j7 at h;split at h
  ·split at h
   ·rename_i hc;simp only[ah,aj]at hc;obtain⟨rfl,rfl⟩:=hc;simp only[aa]at h;subst h;simp only[dJ]at hp;subst hp;exact⟨by simp,fun j fp w0 F0 w hh=>hh⟩
   ·simp at h
  ·simp at h
 |x,.lop r s j,p,h,hp,hy=>by
  unfold j7 at h;split at h
  ·split at h
   ·split at h
    ·split at h
     ·rename_i hs;have:=sR hs;subst this;simp only[aa]at h;subst h;simp only[dJ]at hp;subst hp;exact⟨by simp,fun j fp w0 F0 w hh=>hh⟩
     ·simp at h
    ·simp at h
   ·simp at h
  ·simp at h
 |x,.dfr,p,h,hp,hy=>by
  unfold j7 at h;split at h
  ·exact⟨by simp,fun j fp w0 F0 w hh=>hh⟩
  ·simp at h
 |x,.pin,p,h,hp,hy=>by
  unfold j7 at h;split at h
  ·exact⟨by simp,fun j fp w0 F0 w hh=>hh⟩
  ·simp at h
 |x,.mp k ks vs,p,h,hp,hy=>by
  unfold j7 at h;split at h
  case h_2=>simp at h
  rename_i k' ks' vs';split at h
  case isFalse=>simp at h
  rename_i hc;simp only[ah,aj]at hc;obtain⟨rfl,hw⟩:=hc;obtain⟨u,v,h1,h2,h3,h4⟩:=eI h hp;simp only[aa]at h1;subst h1;simp only[dJ]at h3;subst h3;refine⟨by simp,fun j fp w0 F0 w hh=>?_⟩
  obtain⟨e1,e2,e3,e4⟩:=fU J K vs' vs v h2 h4;obtain⟨g1,g2,g3,g4,g5,es,clock,g6,g7,g8⟩:=hh;refine⟨g1,dD vs hw (e3 g2),e4 g3,g4,?_,es,clock,g6,g7,by rw[g8,e1]⟩
  have:=congrArg List.length e1;simp only[dY,List.length_map]at this;rw[g5,this]
 |x,.mq _ _,p,h,hp,hy=>by simp[j7]at h
 |x,.ms n D,p,h,hp,hy=>by
  unfold j7 at h;split at h
  case h_2=>simp at h
  split at h<;>simp only[aa,reduceCtorEq]at h
  rename_i n' D' hn;have hn:=aj.1 hn;subst hn;subst h;simp only[dJ]at hp;subst hp;exact⟨by simp,fun j fp w0 F0 w hh=>hh⟩
 |x,.mi m n S,p,h,hp,hy=>by
  unfold j7 at h;split at h
  case h_2=>simp at h
  split at h<;>simp only[aa,reduceCtorEq]at h
  rename_i m' n' S' hn;simp only[ah,aj]at hn;obtain⟨rfl,hk⟩:=hn;subst h;simp only[dJ]at hp;obtain⟨rfl,rfl⟩:=hp;exact⟨by simp,fun j fp w0 F0 w hh=>⟨ck.1 hk,hh.2⟩⟩
 |x,.que t e g,p,h,hp,hy=>by
  unfold j7 at h;split at h
  case h_2=>simp at h
  split at h
  case isFalse=>simp at h
  rename_i t' e' g' hn;simp only[ah,aj]at hn;obtain⟨rfl,rfl⟩:=hn;simp only[aa]at h;subst h;simp only[dJ]at hp;subst hp;exact⟨by simp,fun j fp w0 F0 w hh=>hh⟩
 |x,.cset t e n s D Q,p,h,hp,hy=>by
  unfold j7 at h;split at h
  case h_2=>simp at h
  split at h
  case isFalse=>simp at h
  rename_i t' e' n' s' D' Q' hn;simp only[ah,aj]at hn;obtain⟨⟨rfl,rfl⟩,rfl⟩:=hn;split at h
  case h_2=>simp at h
  split at h
  case h_2=>simp at h
  split at h<;>simp only[aa,reduceCtorEq]at h
  rename_i hk;simp only[ah,aj]at hk;obtain⟨⟨rfl,rfl⟩,hk⟩:=hk;subst h;simp only[dJ]at hp;obtain⟨rfl,rfl⟩:=hp;exact⟨by simp,fun j fp w0 F0 w hh=>⟨ck.1 hk,hh.2⟩⟩
 |x,.ro y,p,h,hp,hy=>by
  unfold j7 at h;split at h
  ·rename_i x';split at h
   ·simp at h
   ·rename_i hyy;obtain⟨e1,e2⟩:=uw x' y p h hp hyy;refine⟨by simp,fun j fp w0 F0 w hh=>?_⟩
    obtain⟨fp',g1,g2⟩:=hh;exact⟨fp',e2 j fp' w0 F0 w0 g1,g2⟩
  ·simp at h
theorem lg{K:Nat->Prop}{all:List aI}:∀(l m:List aI) (p:List Prop),lz all l m=some p->dJ p->∀i,known m i->known l i/\
  ∀j fp w0 F0 w,(aH l i).holds K J j fp w0 F0 w->(aH m i).holds (known all) J j fp w0 F0 w
 |_,[],_,_,_,i,hi=>by simp[known,aH]at hi
 | [],y::m,p,h,hp,i,hi=>by
   simp only[lz]at h;split at h
   ·cases i with
    |zero=>simp[known,aH]at hi
    |succ i=>
     obtain⟨h1,h2⟩:=lg (K:=K) [] m p h hp i hi;simp[known,aH]at h1
   ·simp at h
 |x::l,y::m,p,h,hp,i,hi=>by
  have key:∀(q:List Prop),lz all l m=some q->dJ q->(y≠ .yet->x≠ .yet/\∀j fp w0 F0 w,x.holds K J j fp w0 F0 w->y.holds (known all) J j fp w0 F0 w)->
    known (x::l) i/\∀j fp w0 F0 w,(aH (x::l) i).holds K J j fp w0 F0 w->(aH (y::m) i).holds (known all) J j fp w0 F0 w:=by
   intro q hq hq' hz;cases i with
   |zero=>exact hz hi
   |succ i=>exact lg l m q hq hq' i hi
  simp only[lz]at h;split at h
  ·exact key p h hp fun hh=>absurd rfl hh
  ·rename_i hy;obtain⟨u,v,h1,h2,h3,h4⟩:=eI h hp;exact key v h2 h4 fun hy'=>uw x y u h1 h3 hy'
theorem Ek{a c:List V}{l:List Prop}(h:lf a c=some l):tt a=tt c:=by
 match a,c with
 | [],[]=>rfl
 | [],_::_=>simp[lf]at h
 |_::_,[]=>simp[lf]at h
 | [x],[y]=>
   simp only[lf]at h;unfold jm at h;split at h<;>simp only[aa,reduceCtorEq]at h
   rename_i hx _;unfold tt
   cases x<;>cases y<;>simp only[pd,reduceCtorEq]at hx<;>first
    |rfl
    | (have hb:=aj.1 (cc hx).1;subst hb;rfl)
 | [x],y::z::m=>
   simp only[lf,jm]at h;split at h<;>simp_all
 |x::z::m,[y]=>
  simp only[lf,jm]at h;split at h<;>simp_all
 |_::_::_,_::_::_=>rfl
theorem nQ{K:Nat->Prop}{res:List aI}:∀(l m:List (Nat×List V×List V)) (p:List Prop),lN res l m=some p->dJ p->(∀d∈l,cm K d.2.1/\cm K d.2.2)->
  l.flatMap (fD J)=m.flatMap (fD J)/\∀d∈m,cm (known res) d.2.1/\cm (known res) d.2.2
 | [],[],_,_,_,_=>⟨rfl,by simp⟩
 | [],_::_,_,h,_,_=>by simp[lN]at h
 |_::_,[],_,h,_,_=>by simp[lN]at h
 | (f,a,b)::l,(g,c,d)::m,p,h,hp,hk=>by
   simp only[lN]at h;split at h
   ·rename_i hc;simp only[ah,aj]at hc;obtain⟨⟨rfl,w1⟩,w2⟩:=hc;obtain⟨u,v,h1,h2,h3,h4⟩:=eI h hp;obtain⟨u1,u2,i1,i2,i3,i4⟩:=eI h1 h3;obtain⟨e1,_,e2,_⟩:=fU J K a c u1 i1 i3;obtain⟨f1,_,f2,_⟩:=fU J K b d u2 i2 i4;obtain⟨g1,g2⟩:=nQ l m v h2 h4 fun d hd=>hk d (by simp[hd])
    have hk0:=hk (f,a,b) (by simp)
    have hde:fD J (f,a,b)=fD J (f,c,d):=by
     grind[Ek,fD,tt]
    refine⟨by rw[List.flatMap_cons,List.flatMap_cons,hde,g1],fun d' hd'=>?_⟩
    rcases List.mem_cons.1 hd' with rfl|hd'
    ·exact⟨dD _ w1 (e2 hk0.1),dD _ w2 (f2 hk0.2)⟩
    ·exact g2 d' hd'
   ·simp at h
theorem Sub.rep{U τ:St}(h:Sub U τ)(hr:fq J fps U w0 F0 a w):fq J fps τ w0 F0 a w/\∀i,known τ.res i->known U.res i:=by
 unfold Sub at h;split at h
 ·rename_i l hl;obtain⟨u,v,h1,h2,h3,h4⟩:=eI hl h;obtain⟨v1,v2,i1,i2,i3,i4⟩:=eI h2 h4;obtain⟨r1,r2,r3,r4⟩:=hr;obtain⟨s1,s2⟩:=mF (J:=J) (K:=known U.res) (sl0:=U.slots) _ _ u h1 h3;have hres:=fun i hi=>lg (J:=J) (K:=known U.res) _ _ v1 i1 i3 i hi
  obtain⟨d1,d2⟩:=nQ (J:=J) (K:=known U.res) _ _ v2 i2 i4 r4;refine⟨⟨⟨by rw[<-s1];exact r1.1,fun t=>(s2 t _ (r1.2 t)).ok⟩,?_,by rw[r3,d1],d2⟩,fun i hi=>(hres i hi).1⟩
  have hk:∀i,known τ.res i->known U.res i:=fun i hi=>(hres i hi).1
  exact⟨fun i hi=>hi,r2.old,r2.os,r2.tape,r2.output,fun i hi=>(hres i hi).2 _ _ _ _ _ (r2.holds i (hk i hi)),fun i b hi=>r2.lt i b (hk i hi),
   fun i j b hi hj=>r2.disj i j b (hk i hi) (hk j hj),fun i b hi=>r2.inF i b (hk i hi),r2.same⟩
 ·exact h.elim
end
end Go.Sx
namespace Go.Sx
open Go.RowKit (Below)
def C6:List V->Option (List Obj)
 | []=>some []
 |v::l=>match v with
  | .ob o=>match C6 l with
    |some m=>some (o::m)
    |none=>none
  |_=>none
theorem uk:∀{l:List V} {L:List Obj},C6 l=some L->l=L.map V.ob
 | [],L,h=>by simp only[C6,aa]at h;subst h;rfl
 |v::l,L,h=>by
  simp only[C6]at h;split at h
  ·split at h<;>simp only[aa,reduceCtorEq]at h
   rename_i o m hm;subst h;rw[uk hm];rfl
  ·simp at h
theorem qH(J:Env)(L:List Obj):aR J (L.map V.ob)=(TL.ob L).cells:=by
 unfold TL.cells;rw[td]
 have h:∀M:List Obj,(M.map V.ob).flatMap (cells J)=(List.range M.length).flatMap fun j=>cells Env.zero (.ob (aX M j free)):=by
  intro M;induction M with
  |nil=>rfl
  |cons o M ih=>
   rw[List.map_cons,List.flatMap_cons,ih,List.length_cons,List.range_succ_eq_map,List.flatMap_cons,List.flatMap_map];congr 1
 exact h L
def As(x:V):Option (List Obj):=
 match x with
 | .ag l=>C6 l
 | .ob o=>some [o]
 |_=>none
theorem sQ{x:V}{L:List Obj}{N:Nat->Prop}(h:As x=some L)(hx:ok N x):(∀J,cells J x=(TL.ob L).cells)/\∀j,j<L.length->(aX L j free).wf:=by
 unfold As at h;split at h
 ·have:=uk h;subst this;refine⟨fun J=>by rw[bI,qH],fun j hj=>?_⟩
  have:=(dZ _).1 hx.1 (.ob (L[j])) (by simp)
  have this:(L[j]).wf:=this;simpa[aX,aq,hj]using this
 ·rename_i o;simp only[aa]at h;subst h;refine⟨fun J=>?_,fun j hj=>?_⟩
  ·have:=qH J [o];rw[<-this];simp[aR,cells]
  ·have:j=0:=by simp at hj;omega
   subst this;exact hx
 ·simp at h
def Ci:List V->Option (List ByteArray)
 | []=>some []
 |v::l=>match v with
  | .st s=>match Ci l with
    |some m=>some (s::m)
    |none=>none
  |_=>none
theorem ub(J:Env):∀{l:List V} {L:List ByteArray},Ci l=some L->aR J l=L.map Value.string
 | [],L,h=>by simp only[Ci,aa]at h;subst h;rfl
 |v::l,L,h=>by
  simp only[Ci]at h;split at h
  ·split at h<;>simp only[aa,reduceCtorEq]at h
   rename_i o m hm;subst h;show Value.string _::aR J l=_
   rw[ub J hm];rfl
  ·simp at h
def IB(x:V):Option (List ByteArray):=
 match x with
 | .ag l=>Ci l
 | .st s=>some [s]
 |_=>none
theorem vy(L:List ByteArray):(TL.st L).cells=L.map Value.string:=by
 have e:(TL.st L).cells=(List.range L.length).flatMap fun j=> [Value.string (aX L j ByteArray.empty)]:=rfl
 rw[e];induction L with
 |nil=>rfl
 |cons s L ih=>
  rw[List.length_cons,List.range_succ_eq_map,List.flatMap_cons,List.flatMap_map,List.map_cons,<-ih rfl];rfl
theorem Bn{x:V}{L:List ByteArray}(h:IB x=some L):(∀J,cells J x=(TL.st L).cells)/\∀j,j<(TL.st L).len->ok (fun _=>False) ((TL.st L).get j)/\bp ((TL.st L).get j)=false/\bP ((TL.st L).get j)=1:=by
 refine⟨fun J=>?_,fun j hj=>⟨trivial,rfl,rfl⟩⟩
 rw[vy];unfold IB at h;split at h
 ·rw[bI];exact ub J h
 ·simp only[aa]at h;subst h;rfl
 ·simp at h
end Go.Sx
namespace Go.Sx
open Go.RowKit (Below)
mutual
def dR(κ:Nat->Option Nat):V->Option V
 | .lp i off=>match κ i with
   |some j=>some (.lp j off)
   |none=>none
 | .lx i off esz n k inner=>match κ i with
   |some j=>some (.lx j off esz n k inner)
   |none=>none
 | .sc i len cap=>match κ i with
   |some j=>some (.sc j len cap)
   |none=>none
 | .so i len=>match κ i with
   |some j=>some (.so j len)
   |none=>none
 | .ap i esz k off=>match κ i with
   |some j=>some (.ap j esz k off)
   |none=>none
 | .sa i=>match κ i with
   |some j=>some (.sa j)
   |none=>none
 | .op i k=>match κ i with
   |some j=>some (.op j k)
   |none=>none
 | .yl i=>match κ i with
   |some j=>some (.yl j)
   |none=>none
 | .mp i=>match κ i with
   |some j=>some (.mp j)
   |none=>none
 | .ch _ _ _ _=>none
 | .ax _ _ _ _ _ _ _ _=>none
 | .bs _ _ _=>none
 | .ks _ _ _ _ _=>none
 | .vw _ _ _ _=>none
 | .fn f l=>match dC κ l with
   |some m=>some (.fn f m)
   |none=>none
 | .ic t x=>match dR κ x with
   |some y=>some (.ic t y)
   |none=>none
 | .ag l=>match dC κ l with
   |some m=>some (.ag m)
   |none=>none
 | .tp l=>match dC κ l with
   |some m=>some (.tp m)
   |none=>none
 | .cb b=>some (.cb b)
 | .bo b=>some (.bo b)
 | .ci k n=>some (.ci k n)
 | .it k n=>some (.it k n)
 | .bt b=>some (.bt b)
 | .st s=>some (.st s)
 | .nl v=>some (.nl v)
 | .key k=>some (.key k)
 | .sl s=>some (.sl s)
 | .by b=>some (.by b)
 | .ob o=>some (.ob o)
def dC(κ:Nat->Option Nat):List V->Option (List V)
 | []=>some []
 |x::l=>match dR κ x with
  |some y=>match dC κ l with
   |some m=>some (y::m)
   |none=>none
  |none=>none
end
def Env.via(κ:Nat->Option Nat)(J ρ':Env):Prop:=∀p i,κ p=some i->ρ'.num i=J.num p/\ρ'.cap i=J.cap p/\ρ'.adr i=J.adr p/\ρ'.sa i=J.sa p/\ρ'.sn i=J.sn p/\ρ'.ob i=J.ob p
section
variable {κ:Nat->Option Nat} {J ρ':Env} {N N':Nat->Prop}
mutual
theorem eQ(hv:Env.via κ J ρ')(hN:∀p i,κ p=some i->N p->N' i):∀v v',dR κ v=some v'->den ρ' v'=den J v/\(ok N v->ok N' v')/\bp v'=bp v
 | .lp i off,v',h=>by
   simp only[dR]at h;split at h<;>simp only[aa,reduceCtorEq]at h
   rename_i j hj;subst h;exact⟨by simp only[den,(hv i j hj).1],fun hk=>hN i j hj hk,rfl⟩
 | .lx i off esz n k inner,v',h=>by
   simp only[dR]at h;split at h<;>simp only[aa,reduceCtorEq]at h
   rename_i j hj;subst h;exact⟨by simp only[den,(hv i j hj).1],fun hk=>⟨hN i j hj hk.1,hk.2⟩,rfl⟩
 | .sc i len cap,v',h=>by
   simp only[dR]at h;split at h<;>simp only[aa,reduceCtorEq]at h
   rename_i j hj;subst h;exact⟨by simp only[den,(hv i j hj).1],fun hk=>hN i j hj hk,rfl⟩
 | .so i len,v',h=>by
   simp only[dR]at h;split at h<;>simp only[aa,reduceCtorEq]at h
   rename_i j hj;subst h;exact⟨by simp only[den,(hv i j hj).1,(hv i j hj).2.1],fun hk=>hN i j hj hk,rfl⟩
 | .ap i esz k off,v',h=>by
   simp only[dR]at h;split at h<;>simp only[aa,reduceCtorEq]at h
   rename_i j hj;subst h;exact⟨by simp only[den,(hv i j hj).2.2.1],fun hk=>hN i j hj hk,rfl⟩
 | .sa i,v',h=>by
   simp only[dR]at h;split at h<;>simp only[aa,reduceCtorEq]at h
   rename_i j hj;subst h;exact⟨by simp only[den,(hv i j hj).2.1,(hv i j hj).2.2.2.1,(hv i j hj).2.2.2.2.1],fun hk=>hN i j hj hk,rfl⟩
 | .yl i,v',h=>by
   simp only[dR]at h;split at h<;>simp only[aa,reduceCtorEq]at h
   rename_i j hj;subst h;exact⟨by simp only[den,(hv i j hj).1],fun hk=>hN i j hj hk,rfl⟩
 | .mp i,v',h=>by
   simp only[dR]at h;split at h<;>simp only[aa,reduceCtorEq]at h
   rename_i j hj;subst h;exact⟨by simp only[den,(hv i j hj).1],fun hk=>hN i j hj hk,rfl⟩
 | .ch b f l y,v',h=>by simp[dR]at h
 | .ax _ _ _ _ _ _ _ _,v',h=>by simp[dR]at h
 | .bs _ _ _,v',h=>by simp[dR]at h
 | .ks _ _ _ _ _,v',h=>by simp[dR]at h
 | .vw _ _ _ _,v',h=>by simp[dR]at h
 | .op i k,v',h=>by
   simp only[dR]at h;split at h<;>simp only[aa,reduceCtorEq]at h
   rename_i j hj;subst h;exact⟨by simp only[den,(hv i j hj).2.2.2.2.2],fun hk=>hN i j hj hk,rfl⟩
 | .fn f l,v',h=>by
   simp only[dR]at h;split at h<;>simp only[aa,reduceCtorEq]at h
   rename_i m hm;subst h;obtain⟨a,_,c,_⟩:=dW hv hN l m hm;exact⟨by simp only[den,a],c,rfl⟩
 | .ic t x,v',h=>by
   simp only[dR]at h;split at h<;>simp only[aa,reduceCtorEq]at h
   rename_i m hm;subst h;obtain⟨a,c,_⟩:=eQ hv hN x m hm;exact⟨by simp only[den,a],c,rfl⟩
 | .ag l,v',h=>by
   simp only[dR]at h;split at h<;>simp only[aa,reduceCtorEq]at h
   rename_i m hm;subst h;obtain⟨_,b,c,d⟩:=dW hv hN l m hm;exact⟨by simp only[den,b],fun hk=>⟨c hk.1,d hk.2⟩,rfl⟩
 | .tp l,v',h=>by
   simp only[dR]at h;split at h<;>simp only[aa,reduceCtorEq]at h
   rename_i m hm;subst h;obtain⟨a,_,c,_⟩:=dW hv hN l m hm;exact⟨by simp only[den,a],c,rfl⟩
 | .cb b,v',h| .bo b,v',h| .ci _ b,v',h| .it _ b,v',h| .bt b,v',h| .st b,v',h| .nl b,v',h| .key b,v',h| .sl b,v',h| .by b,v',h| .ob b,v',h=>by
   simp only[dR,aa]at h;subst h;exact⟨rfl,id,rfl⟩
theorem dW(hv:Env.via κ J ρ')(hN:∀p i,κ p=some i->N p->N' i):∀l l',dC κ l=some l'->aV ρ' l'=aV J l/\aR ρ' l'=aR J l/\(cm N l->cm N' l')/\(oE l->oE l')
 | [],l',h=>by simp only[dC,aa]at h;subst h;exact⟨rfl,rfl,id,id⟩
 |x::l,l',h=>by
  simp only[dC]at h;split at h
  ·rename_i y hy;split at h<;>simp only[aa,reduceCtorEq]at h
   rename_i m hm;subst h;obtain⟨a1,a2,a3⟩:=eQ hv hN x y hy;obtain⟨b1,b2,b3,b4⟩:=dW hv hN l m hm;refine⟨by simp only[aV,a1,b1],by simp only[aR,a1,b2],fun hk=>⟨a2 hk.1,b3 hk.2⟩,fun hk=>?_⟩
   rw[bX]at hk⊢;intro z hz;rcases List.mem_cons.1 hz with rfl|hz
   ·rw[a3];exact hk x (by simp)
   ·simp_all[bX]
  ·simp at h
end
theorem gJ{κ:Nat->Option Nat}:∀{l l':List V},dC κ l=some l'->l'.length=l.length
 | [],l',h=>by simp only[dC,aa]at h;subst h;rfl
 |x::l,l',h=>by
  simp only[dC]at h;split at h
  ·split at h<;>simp only[aa,reduceCtorEq]at h
   rename_i m hm;subst h;simp[gJ hm]
  ·simp at h
def dU(κ:Nat->Option Nat):aI->aI
 | .yet=> .yet
 | .gone=> .gone
 | .blk ty c=>match dR κ c with
   |some c'=> .blk ty c'
   |none=> .gone
 | .arr o e l=> .arr o e l
 | .obs ty q L=>match κ q with
   |some q'=> .obs ty q' L
   |none=> .gone
 | .gen j=>match κ j with
   |some j'=> .gen j'
   |none=> .gone
 | .store ty e L=> .store ty e L
 | .lop r s j=> .lop r s j
 | .dfr=> .dfr
 | .mp k ks vs=>match dC κ vs with
   |some vs'=> .mp k ks vs'
   |none=> .gone
 | .mq ks vs=>match dC κ vs with
   |some vs'=> .mq ks vs'
   |none=> .gone
 | .ms n D=> .ms n D
 | .mi m n S=>match κ m with
   |some m'=> .mi m' n S
   |none=> .gone
 | .que t e l=> .que t e l
 | .pin=> .pin
 | .cset t e n s D Q=>match dR κ s with
   |some s'=> .cset t e n s' D Q
   |none=> .gone
 | .ro r=> .ro (dU κ r)
theorem gf{r:aI}:dU κ r= .yet↔r= .yet:=by
 cases r<;>simp only[dU]<;>(try split)<;>simp
theorem ev(hv:Env.via κ J ρ')(hN:∀p i,κ p=some i->N p->N' i){p i:Nat}(hp:κ p=some i){w0:World}{F0:Nat->Prop}:∀(r:aI) (fp:Nat->Prop) (w:World),r.holds N J p fp w0 F0 w->(dU κ r).holds N' ρ' i fp w0 F0 w
 | .yet,fp,w,h=>trivial
 | .gone,fp,w,h=>trivial
 | .pin,fp,w,h=>h
 | .gen j,fp,w,h=>by simp only[dU];split<;>trivial
 | .blk ty c,fp,w,h=>by
   simp only[dU];split
   ·rename_i c' hc;obtain⟨h1,h2,h3,h4⟩:=h;obtain⟨a,b,d⟩:=eQ hv hN c c' hc;have e:=(hv p i hp).1;exact⟨b h1,by rw[d];exact h2,by rw[e];exact h3,by rw[e];simp only[cells,a];exact h4⟩
   ·trivial
 | .arr o e l,fp,w,h=>by
   obtain⟨e1,e2,e3,e4,e5,e6⟩:=hv p i hp;obtain⟨h1,h2,h3,h4,h5,h6,h7⟩:=h;have hsl:ρ'.sl i=J.sl p:=by simp only[Env.sl,e2,e4,e5]
   refine⟨h1,by rw[e5];exact h2,h3,by rw[e4,e3];exact h4,by rw[e4];exact h5,by rw[e3];exact h6,?_⟩
   rcases h7 with⟨g1,g2,g3⟩|⟨x,g1,g2,g3⟩
   ·refine .inl ⟨g1,by rw[e3];exact g2,fun j hj k hk=>?_⟩
    rw[e3,g3 j hj k hk,bw (N:=fun _=>False) (J:=J) (ρ':=ρ') (fun _ h=>h.elim) _ (h1 j hj).1]
   ·exact .inr ⟨x,g1,by rw[hsl];exact g2,by rw[e4];exact g3⟩
 | .obs ty q L,fp,w,h=>by
   simp only[dU];split
   ·rename_i q' hq;obtain⟨e1,e2,e3,e4,e5,e6⟩:=hv p i hp;obtain⟨h0,h1,h2,h3,h4,h5,h6,h7⟩:=h;have hsl:ρ'.sl i=J.sl p:=by simp only[Env.sl,e2,e4,e5]
    have eq6:=(hv q q' hq).2.2.2.2.2;exact⟨hN q q' hq h0,h1,by rw[e5];exact h2,h3,by rw[e4,e3];exact h4,by rw[e4];exact h5,by rw[hsl,eq6];exact h6,by rw[eq6];exact h7⟩
   ·trivial
 | .store ty e L,fp,w,h=>by
   have e:=(hv p i hp).1;obtain⟨h0,h1,h2,sl,ob,h3,h5,h6,h7⟩:=h;exact⟨by rw[e];exact h0,h1,h2,sl,ob,by rw[e];exact h3,h5,by rw[e];exact h6,by rw[e];exact h7⟩
 | .lop r s j,fp,w,h=>by
   have e:=(hv p i hp).1;exact⟨by rw[e];exact h.1,by rw[e];exact h.2⟩
 | .dfr,fp,w,h=>by
   have e1:=(hv p i hp).2.2.2.2.1;have e2:=(hv p i hp).2.2.2.2.2;exact⟨fun j hj=>by rw[e1]at hj;rw[e2];exact h.1 j hj,by rw[e1,e2];exact h.2⟩
 | .mp k ks vs,fp,w,h=>by
   simp only[dU];split
   ·rename_i vs' hvs;obtain⟨h0,h1,h2,h3,h4,es,cl,h5,h6,h7⟩:=h;obtain⟨a,_,c,d⟩:=dW hv hN vs vs' hvs;have e:=(hv p i hp).1;exact⟨by rw[e];exact h0,c h1,d h2,h3,by rw[gJ hvs];exact h4,es,cl,by rw[e];exact h5,h6,by rw[a];exact h7⟩
   ·trivial
 | .mq ks vs,fp,w,h=>by
   simp only[dU];split
   ·rename_i vs' hvs;obtain⟨h0,h1,h2,h4,es,cl,h5,h7⟩:=h;obtain⟨a,_,c,d⟩:=dW hv hN vs vs' hvs;have e:=(hv p i hp).1;exact⟨by rw[e];exact h0,c h1,d h2,by rw[gJ hvs];exact h4,es,cl,by rw[e];exact h5,by rw[a];exact h7⟩
   ·trivial
 | .ms n D,fp,w,h=>by
   have e:=(hv p i hp).1;exact⟨by rw[e];exact h.1,h.2.1,by rw[e];exact h.2.2⟩
 | .mi m n S,fp,w,h=>by
   simp only[dU];split
   ·rename_i m' hm;have e:=(hv p i hp).1;exact⟨hN m m' hm h.1,by rw[e];exact h.2.1,by rw[e,(hv m m' hm).1];exact h.2.2⟩
   ·trivial
 | .que t e l,fp,w,h=>by
   obtain⟨h1,h2,h3,h4,h5,h6⟩:=h;obtain⟨a1,a2,a3,a4,a5,a6⟩:=hv p i hp;exact⟨h1,by rw[a5];exact h2,h3,by rw[a4,a3];exact h4,by rw[a4];exact h5,by simp only[Env.sl]at h6⊢;rw[a2,a4,a5];exact h6⟩
 | .cset t e n s D Q,fp,w,h=>by
   simp only[dU];split
   ·rename_i s' hs;obtain⟨h1,h2,h3,h4,h5,h6,m,sl,g1,g2,g3,g4,g5⟩:=h;obtain⟨a,b,d⟩:=eQ hv hN s s' hs;have e:=(hv p i hp).1;exact⟨b h1,by rw[d];exact h2,by rw[e];exact h3,h4,h5,h6,m,sl,by rw[e];simp only[cells,a]at g1⊢;exact g1,by rw[e];exact g2,g3,g4,by rw[e];exact g5⟩
   ·trivial
 | .ro r,fp,w,h=>by
   obtain⟨fp',h1,h2⟩:=h;exact⟨fp',ev hv hN hp r fp' w0 h1,h2⟩
end
def idxOf:List Nat->Nat->Nat->Option Nat
 | [],_,_=>none
 |x::l,n,p=>if x==p then some n else idxOf l (n+1) p
def kP(n:Nat)(l:List Nat)(p:Nat):Option Nat:=if Nat.blt p n then some p else idxOf l n p
def src(n:Nat)(l:List Nat)(i:Nat):Nat:=if i<n then i else l.getD (i-n) i
theorem dV:∀{l:List Nat} {n p i:Nat},idxOf l n p=some i->n<=i/\i<n+l.length/\l[i-n]? =some p
 | [],n,p,i,h=>by simp[idxOf]at h
 |x::l,n,p,i,h=>by
  simp only[idxOf]at h;split at h
  ·simp_all
  ·obtain⟨h1,h2,h3⟩:=dV h;refine⟨by omega,by simp;omega,?_⟩
   rw[show i-n=(i-(n+1))+1 by omega]
   simpa using h3
theorem zO{n:Nat}{l:List Nat}{p i:Nat}(h:kP n l p=some i):src n l i=p:=by
 unfold kP at h;unfold src;split at h
 ·rename_i hp;simp only[aa]at h;subst h;rw[au (by simpa using hp)]
 ·obtain⟨h1,h2,h3⟩:=dV h;rw[ar (by omega),aq,h3];rfl
def Env.pull(π:Nat->Nat)(J:Env):Env:= {num:=fun i=>J.num (π i),cap:=fun i=>J.cap (π i),adr:=fun i=>J.adr (π i),sa:=fun i=>J.sa (π i),sn:=fun i=>J.sn (π i),ob:=fun i=>J.ob (π i)}
theorem oy{π:Nat->Nat}{κ:Nat->Option Nat}{J:Env}(h:∀p i,κ p=some i->π i=p):Env.via κ J (J.pull π):=fun p i hp=>by
 have:=h p i hp;simp[Env.pull,this]
def iV(κ:Nat->Option Nat)(all:List aI):Nat->List aI->List aI
 |0,_=> []
 |_+1,[]=> []
 |n+1,r::l=>dU κ r::iV κ all n l
def ey(κ:Nat->Option Nat)(all:List aI):List Nat->List aI
 | []=> []
 |p::l=>dU κ (aH all p)::ey κ all l
def jV(κ:Nat->Option Nat):List S->List S
 | []=> []
 |s::l=>(match s with
  | .v x=>match dR κ x with
    |some y=> .v y
    |none=> .und
  |_=> .und)::jV κ l
def qO(κ:Nat->Option Nat):List (Nat×List V×List V)->Option (List (Nat×List V×List V))
 | []=>some []
 | (f,a,b)::l=>match dC κ a,dC κ b,qO κ l with
   |some a',some b',some m=>some ((f,a',b')::m)
   |_,_,_=>none
def qa:List Nat->Nat->Bool
 | [],_=>false
 |x::l,p=>x==p||qa l p
def iU(n m:Nat):List Nat->Bool
 | []=>true
 |p::l=>Nat.ble n p&&Nat.blt p m&& !qa l p&&iU n m l
def Hb(n:Nat)(ext:List Nat)(U:St):Option St:=
 if Nat.ble n U.res.length&&iU n U.res.length ext then
  match qO (kP n ext) U.defs with
  |some ds=>some {slots:=jV (kP n ext) U.slots,res:=iV (kP n ext) U.res n U.res++ey (kP n ext) U.res ext,defs:=ds}
  |none=>none
 else none
theorem pD(κ:Nat->Option Nat)(all:List aI):∀(n:Nat) (l:List aI) (i:Nat),n<=l.length->i<n->aH (iV κ all n l) i=dU κ (aH l i)
 |0,_,i,_,h=>by omega
 |n+1,[],i,h,_=>by simp at h
 |n+1,r::l,0,h,_=>rfl
 |n+1,r::l,i+1,h,hi=>by
  simp_all[iV,aH,pD]
theorem mC(κ:Nat->Option Nat)(all:List aI):∀(n:Nat) (l:List aI),n<=l.length->(iV κ all n l).length=n
 |0,_,_=>rfl
 |n+1,[],h=>by simp at h
 |n+1,r::l,h=>by simp[iV,mC κ all n l (by simpa using h)]
theorem lh(κ:Nat->Option Nat)(all:List aI):∀(l:List Nat) (k:Nat),aH (ey κ all l) k=match l[k]? with|some p=>dU κ (aH all p)|none=> .yet
 | [],k=>by simp[ey,aH]
 |p::l,0=>by simp[ey,aH]
 |p::l,k+1=>by simp[ey,aH,lh κ all l k]
theorem zr:∀{l:List Nat} {p:Nat},qa l p=true↔p∈l
 | [],p=>by simp[qa]
 |x::l,p=>by
  simp only[qa,Bool.or_eq_true,aj,zr (l:=l),List.mem_cons];exact or_congr_left eq_comm
theorem jT{n m:Nat}:∀{l:List Nat},iU n m l=true->(∀p∈l,n<=p/\p<m)/\l.Nodup
 | [],_=>by simp
 |p::l,h=>by
  simp only[iU,ah,Nat.ble_eq,Nat.blt_eq,Bool.not_eq_true']at h;obtain⟨⟨⟨h1,h2⟩,h3⟩,h4⟩:=h;obtain⟨a,b⟩:=jT h4;refine⟨fun q hq=>?_,List.nodup_cons.2 ⟨fun hp=>?_,b⟩⟩
  ·grind
  ·rw[<-zr]at hp;rw[hp]at h3;simp at h3
theorem ku(κ:Nat->Option Nat):∀l:List S,(jV κ l).length=l.length
 | []=>rfl
 |s::l=>by simp[jV,ku κ l]
theorem nB(κ:Nat->Option Nat):∀(l:List S) (t:Nat),bh (jV κ l) t=match bh l t with
  | .v x=>(match dR κ x with|some y=> .v y|none=> .und)
  |_=> .und
 | [],t=>by simp[jV,bh]
 |s::l,0=>by cases s<;>rfl
 |s::l,t+1=>by simp only[jV,bh];exact nB κ l t
theorem Ax{κ:Nat->Option Nat}{a a':List V}(h:dC κ a=some a'):(tt a=none/\tt a'=none)\/∃k k',tt a=some k/\κ k=some k'/\tt a'=some k':=by
 match a with
 | []=>simp only[dC,aa]at h;subst h;exact .inl ⟨rfl,rfl⟩
 | [x]=>
   simp only[dC]at h;split at h<;>simp only[aa,reduceCtorEq]at h
   rename_i y hy;subst h
   cases x<;>simp only[dR]at hy<;>(try split at hy)<;>simp only[aa,reduceCtorEq]at hy<;>subst hy<;>first
    |exact .inl ⟨rfl,rfl⟩
    | (rename_i k _ k' hk;exact .inr ⟨k,k',rfl,hk,rfl⟩)
 |x::z::m=>
  have hl:=gJ h;match a',hl with
  | [],hl=>simp at hl
  | [_],hl=>simp at hl
  |_::_::_,_=>exact .inl ⟨rfl,rfl⟩
theorem k8{κ:Nat->Option Nat}{J ρ':Env}{N N':Nat->Prop}(hv:Env.via κ J ρ')(hN:∀p i,κ p=some i->N p->N' i):∀(l m:List (Nat×List V×List V)),qO κ l=some m->
  m.flatMap (fD ρ')=l.flatMap (fD J)/\((∀d∈l,cm N d.2.1/\cm N d.2.2)->∀d∈m,cm N' d.2.1/\cm N' d.2.2)
 | [],m,h=>by simp only[qO,aa]at h;subst h;exact⟨rfl,fun _=>by simp⟩
 | (f,a,b)::l,m,h=>by
   simp only[qO]at h;split at h<;>simp only[aa,reduceCtorEq]at h
   rename_i a' b' m' ha hb hm;subst h;obtain⟨a1,_,a3,_⟩:=dW hv hN a a' ha;obtain⟨b1,_,b3,_⟩:=dW hv hN b b' hb;obtain⟨c1,c2⟩:=k8 hv hN l m' hm
   have hde:fD ρ' (f,a',b')=fD J (f,a,b):=by
    unfold fD;rcases Ax ha with⟨h1,h2⟩|⟨k,k',h1,h2,h3⟩
    ·simp only[h1,h2,a1,b1]
    ·simp only[h1,h3,(hv k k' h2).2.2.2.2.1,(hv k k' h2).2.2.2.2.2]
   refine⟨by rw[List.flatMap_cons,List.flatMap_cons,hde,c1],fun hk d hd=>?_⟩
   rcases List.mem_cons.1 hd with rfl|hd
   ·have h0:=hk (f,a,b) (by simp)
    exact⟨a3 h0.1,b3 h0.2⟩
   ·exact c2 (fun d hd=>hk d (by simp[hd])) d hd
theorem Cb{J:Env}{fps:Nat->Nat->Prop}{w0 w:World}{F0:Nat->Prop}{a:Act}{n:Nat}{ext:List Nat}{U σ':St}(h:Hb n ext U=some σ')(hr:fq J fps U w0 F0 a w):
  ∃ρ' fps',fq ρ' fps' σ' w0 F0 a w/\∀i,i<n->ρ'.num i=J.num i/\ρ'.cap i=J.cap i/\ρ'.adr i=J.adr i/\ρ'.sa i=J.sa i/\ρ'.sn i=J.sn i/\ρ'.ob i=J.ob i:=by
 unfold Hb at h;split at h
 ·rename_i hc;simp only[ah,Nat.ble_eq]at hc;obtain⟨hn,he⟩:=hc;obtain⟨e1,e2⟩:=jT he;split at h<;>simp only[aa,reduceCtorEq]at h
  rename_i ds hds;subst h;obtain⟨r1,r2,r3,r4⟩:=hr;generalize hκ:kP n ext=κ at *
  have hπ:∀p i,κ p=some i->src n ext i=p:=fun p i hp=>by subst hκ;exact zO hp
  have hv:Env.via κ J (J.pull (src n ext)):=oy hπ
  have hget:∀i,aH (iV κ U.res n U.res++ey κ U.res ext) i=if i<n then dU κ (aH U.res i)else match ext[i-n]? with|some p=>dU κ (aH U.res p)|none=> .yet:=fun i=>by
   simp_all[bc,mC,pD,lh]
  have hkn:∀i,known (iV κ U.res n U.res++ey κ U.res ext) i->known U.res (src n ext i)/\κ (src n ext i)=some i/\aH (iV κ U.res n U.res++ey κ U.res ext) i=dU κ (aH U.res (src n ext i)):=fun i hi=>by
   unfold known at hi;rw[hget]at hi⊢;unfold src;by_cases hin:i<n
   ·rw[au hin]at hi⊢;rw[au hin];refine⟨fun e=>hi (gf.2 e),?_,rfl⟩
    subst hκ;unfold kP;rw[au (by simpa using hin)]
   ·rw[ar hin]at hi⊢;rw[ar hin,aq];cases hx:ext[i-n]? with
    |none=>rw[hx]at hi;exact absurd rfl hi
    |some p=>
     rw[hx]at hi;simp only[Option.getD_some];refine⟨fun e=>hi (gf.2 e),?_,trivial⟩
     subst hκ;unfold kP;have hp:=e1 p (List.mem_of_getElem? hx);rw[ar (by simp;omega)]
     have:∀(l:List Nat) (m k:Nat),l.Nodup->l[k]? =some p->idxOf l m p=some (m+k):=by
      intro l;induction l with
      |nil=>intro m k _ h;simp at h
      |cons x l ih=>
       intro m k hnd h;simp only[idxOf];cases k with
       |zero=>simp at h;subst h;simp
       |succ k=>
        simp at h
        have hne:(x==p)=false:=by
         grind
        rw[hne];simp only[Bool.false_eq_true,if_false];rw[ih (m+1) k (List.nodup_cons.1 hnd).2 h];congr 1;omega
     rw[this ext n (i-n) e2 hx];congr 1;omega
  have hN:∀p i,κ p=some i->known U.res p->known (iV κ U.res n U.res++ey κ U.res ext) i:=fun p i hp hk=>by
   unfold known;rw[hget];have hs:=hπ p i hp;unfold src at hs;by_cases hin:i<n
   ·rw[au hin]at hs⊢;subst hs;exact fun e=>hk (gf.1 e)
   ·rw[ar hin]at hs⊢;subst hκ;unfold kP at hp;split at hp
    ·simp only[aa]at hp;rename_i hb;simp at hb;omega
    ·obtain⟨_,_,h3⟩:=dV hp;rw[h3];exact fun e=>hk (gf.1 e)
  refine⟨J.pull (src n ext),fun i=>fps (src n ext i),⟨⟨by simpa[ku]using r1.1,fun t=>?_⟩,?_,?_,?_⟩,fun i hi=>?_⟩
  ·rw[nB];have:=r1.2 t;split
   ·rename_i x hx;rw[hx]at this;split
    ·rename_i y hy;obtain⟨a1,a2,_⟩:=eQ hv hN x y hy;exact⟨this.1.trans a1.symm,a2 this.2⟩
    ·trivial
   ·trivial
  ·refine⟨fun i hi=>hi,r2.old,r2.os,r2.tape,r2.output,fun i hi=>?_,fun i b hi=>r2.lt _ b (hkn i hi).1,fun i j b hi hj hne=>r2.disj _ _ b (hkn i hi).1 (hkn j hj).1 fun e=>hne ?_,fun i b hi=>r2.inF _ b (hkn i hi).1,r2.same⟩
   ·obtain⟨a1,a2,a3⟩:=hkn i hi;rw[a3];exact ev hv hN a2 _ _ _ (r2.holds _ a1)
   ·grind
  ·obtain⟨a1,_⟩:=k8 hv hN _ _ hds;rw[r3];exact a1.symm
  ·exact(k8 hv hN _ _ hds).2 r4
  ·simp[Env.pull,src,hi]
 ·simp at h
inductive Gh where
 |bl (c ty:Nat)
 |bv (c e esz:Nat) (l:TL)
 |sl (t e esz:Nat) (l:TL)
 |al (t:Nat)
 |ab (c:Nat)
 |li (t:Nat)
 |dm
 |lb (c:Nat)
 |opn (k:Nat)
 |sht (k e:Nat)
def vf:TL->Bool
 | .ob l=>match l with| []=>true|_=>false
 | .key l=>match l with| []=>true|_=>false
 | .it _ l=>match l with| []=>true|_=>false
 | .bo l=>match l with| []=>true|_=>false
 | .st l=>match l with| []=>true|_=>false
 | .qs _ l=>match l with| []=>true|_=>false
 | .fn n _=>Nat.beq n 0
theorem wM{l:TL}(h:vf l=true):l.len=0/\l.cells= []:=by
 cases l with
 |fn n g=>
  have:=Nat.eq_of_beq_eq_true h;subst this;exact⟨rfl,rfl⟩
 |ob l=>cases l<;>first|exact⟨rfl,rfl⟩|simp[vf]at h
 |key l=>cases l<;>first|exact⟨rfl,rfl⟩|simp[vf]at h
 |it k l=>cases l<;>first|exact⟨rfl,rfl⟩|simp[vf]at h
 |bo l=>cases l<;>first|exact⟨rfl,rfl⟩|simp[vf]at h
 |st l=>cases l<;>first|exact⟨rfl,rfl⟩|simp[vf]at h
 |qs n l=>cases l<;>first|exact⟨rfl,rfl⟩|simp[vf]at h
def K6(v:V):Option (Nat×IntKind×Int):=
 match v with
 | .ag l=>match l with
   | [x,y]=>match x with
     | .sa k=>match y with
       | .it q n=>some (k,q,n)
       |_=>none
     |_=>none
   |_=>none
 |_=>none
theorem CG{v:V}{k:Nat}{q:IntKind}{n:Int}(h:K6 v=some (k,q,n)):v= .ag [.sa k,.it q n]:=by
 unfold K6 at h;split at h
 case h_2=>simp at h
 split at h
 case h_2=>simp at h
 split at h
 case h_2=>simp at h
 split at h
 case h_2=>simp at h
 simp only[aa,ae]at h;obtain⟨rfl,rfl,rfl⟩:=h;rfl
def tg(res:List aI)(k:Nat):Option (List aI):=
 match aH res k with
 | .cset t e n sv D Q=>some (bd res k (.blk t (.ag [sv,.mp res.length,.sa (res.length+1)]))++ [.ms n D,.que e n Q])
 |_=>none
def pV(res:List aI)(k e:Nat):Option (List aI):=
 match aH res k with
 | .blk t c=>match c with
   | .ag l=>match l with
     | [sv,m,x]=>match m with
       | .mp m=>match aH res m with
         | .ms n D=>match x with
           | .nl v=>match v with
             | .slice a b c=>match a with
               |none=>if b==0&&c==0 then some (bd (bd res m .gone) k (.cset t e n sv D []))else none
               |some _=>none
             |_=>none
           | .sa q=>match aH res q with
             | .que e' n' Q=>if n'==n&&e'==e then some (bd (bd (bd res m .gone) q .gone) k (.cset t e n sv D Q))else none
             |_=>none
           |_=>none
         |_=>none
       |_=>none
     |_=>none
   |_=>none
 |_=>none
def xV(U:St):Gh->Option St
 | .bl c ty=>match aH U.res c with
   | .blk t (.ag [.nl (.slice none 0 0)])=>some {U with res:=bd U.res c (.blk t (.ag [.sa U.res.length]))++ [.obs ty (U.res.length+1) [],.gen U.res.length]}
   |_=>none
 | .bv c e esz l=>match aH U.res c with
   | .blk t (.nl (.slice none 0 0))=>if vf l then some {U with res:=bd U.res c (.blk t (.sa U.res.length))++ [.arr (some e) esz l]}else none
   |_=>none
 | .sl t e esz l=>match bh U.slots t with
   | .v (.nl (.slice none 0 0))=>if vf l then some {U with slots:=sset (clean U.slots) t (.v (.sa U.res.length)),res:=U.res++ [.arr (some e) esz l]}else none
   |_=>none
 | .al t=>match bh U.slots t with
   | .v (.sa k)=>match aH U.res k with
     | .ro r=>match r with
       | .arr _ esz l=>some {U with slots:=sset (clean U.slots) t (.v (.sa U.res.length)),res:=U.res++ [.arr none esz l]}
       |_=>none
     | .arr own esz l=>some {U with slots:=sset (clean U.slots) t (.v (.sa U.res.length)),res:=ba [k] U.res++ [.arr own esz l]}
     |_=>none
   |_=>none
 | .ab c=>match aH U.res c with
   | .blk t v=>match K6 v with
     |some (k,q,n)=>match aH U.res k with
      | .ro r=>match r with
        | .arr _ esz l=>some {U with res:=bd U.res c (.blk t (.ag [.sa U.res.length,.it q n]))++ [.arr none esz l]}
        |_=>none
      |_=>none
     |none=>none
   |_=>none
 | .li t=>match bh U.slots t with
   | .v v=>match v with
     | .sc k n c=>match aH U.res k with
       | .blk e x=>match As x with
         |some L=>if n==L.length&&c==n&&Nat.ble n 1000 then some {U with slots:=sset (clean U.slots) t (.v (.sa U.res.length)),res:=ba [k] U.res++ [.arr (some e) 163 (.ob L)]}else none
         |none=>none
       |_=>none
     |_=>none
   |_=>none
 | .lb c=>match aH U.res c with
   | .blk t v=>match v with
     | .sc k n cp=>match aH U.res k with
       | .blk e x=>match IB x with
         |some L=>if n==L.length&&cp==n&&Nat.ble n 1000&& !(k==c)then some {U with res:=bd (ba [k] U.res++ [.arr (some e) 1 (.st L)]) c (.blk t (.sa U.res.length))}else none
         |none=>none
       |_=>none
     |_=>none
   |_=>none
 | .opn k=>match tg U.res k with
   |some r=>some {U with slots:=clean U.slots,res:=r}
   |none=>none
 | .sht k e=>match pV U.res k e with
   |some r=>some {U with slots:=clean U.slots,res:=r}
   |none=>none
 | .dm=>some {U with res:=U.res++ [.dfr],defs:=(0,[.yl U.res.length],[])::U.defs}
def kG:List Gh->St->Option St
 | [],U=>some U
 |g::l,U=>match xV U g with
  |some σ'=>kG l σ'
  |none=>none
def Env.cX(J:Env)(i:Nat):Env:= {J with cap:=fun j=>if j=i then 0 else J.cap j,sa:=fun j=>if j=i then none else J.sa j,sn:=fun j=>if j=i then 0 else J.sn j}
theorem uD{N:Nat->Prop}{J:Env}{i:Nat}(h:¬N i):Env.agree N J (J.cX i):=fun j hj=>by
 have:j≠i:=fun e=>h (e▸hj)
 simp[Env.cX,this]
def Env.dS(J:Env)(i k:Nat):Env:= {J with cap:=fun j=>if j=i then J.cap k else J.cap j,adr:=fun j=>if j=i then J.adr k else J.adr j,sa:=fun j=>if j=i then J.sa k else J.sa j,sn:=fun j=>if j=i then J.sn k else J.sn j}
theorem kQ{N:Nat->Prop}{J:Env}{i k:Nat}(h:¬N i):Env.agree N J (J.dS i k):=fun j hj=>by
 have:j≠i:=fun e=>h (e▸hj)
 simp[Env.dS,this]
theorem C2{K K':Nat->Prop}{J:Env}{i:Nat}{fp fp2:Nat->Prop}{w0 w:World}{F0:Nat->Prop}{own:Option Nat}{esz:Nat}{l:TL}(h:(aI.ro (.arr own esz l)).holds K J i fp w0 F0 w):(aI.arr none esz l).holds K' J i fp2 w0 F0 w:=by
 obtain⟨fp',⟨h1,h2,h3,h4,h5,h6,h7⟩,hf⟩:=h;refine⟨h1,h2,h3,h4,h5,h6,.inl ⟨rfl,?_⟩⟩;rcases h7 with⟨_,h7⟩|⟨e,_,e2,e3⟩
 ·exact h7
 ·refine⟨fun hl=>?_,fun j hj k hk=>?_⟩
  ·grind[fo]
  ·obtain⟨g,f1,f2,f3,f4⟩:=fo e2 (by omega)
   have ha:=h4 _ f1;rw[<-ha];simp only[Nat.zero_add]
   have hlt:j*esz+k<l.len*esz:=by
    have:(j+1)*esz<=l.len*esz:=Nat.mul_le_mul_right _ hj;rw[Nat.succ_mul]at this;omega
   rw[f4 _ hlt];unfold TL.cells;rw[nH (esz:=esz) (fun j hj=>by rw[aO Env.zero _ (h1 j hj).1];exact(h1 j hj).2.2) hj hk]
   rw[bw (N:=fun _=>False) (J:=J) (ρ':=Env.zero) (fun _ h=>h.elim) _ (h1 j hj).1]
theorem El{K K':Nat->Prop}{J:Env}{i k:Nat}{w0 w:World}{F0:Nat->Prop}{esz:Nat}{l:TL}(h:(aI.arr none esz l).holds K J k (fun _=>False) w0 F0 w):(aI.arr none esz l).holds K' (J.dS i k) i (fun _=>False) w0 F0 w:=by
 obtain⟨a1,a2,a3,a4,a5,a6,a7⟩:=h;have e1:(J.dS i k).adr i=J.adr k:=by simp[Env.dS]
 have e2:(J.dS i k).sa i=J.sa k:=by simp[Env.dS]
 have e3:(J.dS i k).sn i=J.sn k:=by simp[Env.dS]
 refine⟨a1,by rw[e3];exact a2,a3,by rw[e1,e2];exact a4,by rw[e2];exact a5,by rw[e1];exact a6,?_⟩
 rcases a7 with⟨_,b1,b2⟩|⟨e,_,_,b3⟩
 ·refine .inl ⟨rfl,by rw[e1];exact b1,fun j hj x hx=>?_⟩
  rw[e1,b2 j hj x hx,bw (N:=fun _=>False) (J:=J) (ρ':=J.dS i k) (fun _ h=>h.elim) _ (a1 j hj).1]
 ·by_cases hl:0<l.len
  ·have:=a5 hl;cases hs:J.sa k with
   |none=>rw[hs]at this;simp at this
   |some x=>exact(b3 x hs).elim
  ·exact .inl ⟨rfl,fun h=>absurd h hl,fun j hj=>absurd (Nat.lt_of_le_of_lt (Nat.zero_le _) hj) hl⟩
theorem FL{J:Env}{fps:Nat->Nat->Prop}{w0:World}{F0:Nat->Prop}{w:World}{res:List aI}{k esz:Nat}{own:Option Nat}{l:TL}(h:aQ J fps res (known res) w0 F0 w)(hrk:aH res k= .arr own esz l):
  ∃fps',aQ (J.dS res.length k) fps' (ba [k] res++ [.arr own esz l]) (known (ba [k] res++ [.arr own esz l])) w0 F0 w/\Env.agree (known res) J (J.dS res.length k)/\(∀i,known res i->known (ba [k] res++ [.arr own esz l]) i)/\known (ba [k] res++ [.arr own esz l]) res.length:=by
 have hkk:known res k:=by unfold known;rw[hrk];simp
 have hn:¬known res res.length:=by
  simp_all[known,gB]
 have hh:=h.holds k hkk;rw[hrk]at hh;obtain⟨a1,a2,a3,a4,a5,a6,a7⟩:=hh;have e1:(J.dS res.length k).adr res.length=J.adr k:=by simp[Env.dS]
 have e2:(J.dS res.length k).sa res.length=J.sa k:=by simp[Env.dS]
 have e3:(J.dS res.length k).sn res.length=J.sn k:=by simp[Env.dS]
 have e4:(J.dS res.length k).sl res.length=J.sl k:=by simp[Env.dS,Env.sl]
 refine h.lA [k] (.arr own esz l) [] (fps k) (by simp) (by simpa using hkk) (by simp) (kQ hn) ?_ (fun b hb=> .inl ⟨k,by simp,hb⟩) rfl rfl rfl (Nat.le_refl _) (fun b _ _=>rfl)
 refine⟨a1,by rw[e3];exact a2,a3,by rw[e1,e2];exact a4,by rw[e2];exact a5,by rw[e1];exact a6,?_⟩
 rcases a7 with⟨b0,b1,b2⟩|⟨e,b1,b2,b3⟩
 ·refine .inl ⟨b0,by rw[e1];exact b1,fun j hj x hx=>?_⟩
  rw[e1,b2 j hj x hx,bw (N:=fun _=>False) (J:=J) (ρ':=J.dS res.length k) (fun _ h=>h.elim) _ (a1 j hj).1]
 ·exact .inr ⟨e,b1,by rw[e4];exact b2,by rw[e2];exact b3⟩
theorem mM{J:Env}{i:Nat}:den (J.cX i) (.sa i)= .slice none 0 0:=by simp[den,Env.cX]
section
variable {J:Env} {fps:Nat->Nat->Prop} {w0 w:World} {F0:Nat->Prop} {a:Act}
theorem aQ.beside{res:List aI}(h:aQ J fps res (known res) w0 F0 w){ρ':Env}(hag:Env.agree (known res) J ρ')(res1 new:List aI)(hl:res1.length=res.length)
  (h1:∀i,i<res.length->aH res1 i=aH res i\/(known res i/\known res1 i/\(aH res1 i).holds (known (res1++new)) ρ' i (fps i) w0 F0 w))
  (h2:∀k,k<new.length->(aH new k).holds (known (res1++new)) ρ' (res.length+k) (fun _=>False) w0 F0 w):
  ∃fps',aQ ρ' fps' (res1++new) (known (res1++new)) w0 F0 w/\Env.agree (known res) J ρ'/\∀i,known res i->known (res1++new) i:=by
 have hget:∀i,aH (res1++new) i=if i<res.length then aH res1 i else aH new (i-res.length):=fun i=>by rw[bc,hl]
 have hmono:∀i,known res i->known (res1++new) i:=fun i hi=>by
  grind[aK,known]
 obtain⟨fps',g⟩:=h.turn (res':=res1++new) (K':=known (res1++new)) (fun i=>known res i/\known res1 i/\(aH res1 i).holds (known (res1++new)) ρ' i (fps i) w0 F0 w)
  (fun i=>(known res i/\known res1 i/\(aH res1 i).holds (known (res1++new)) ρ' i (fps i) w0 F0 w)\/res.length<=i) (fun i b=>i<res.length/\fps i b/\known res i) (fun i hi=>hi) hmono hag
  (fun i hi hb=>by
   have hlt:i<res.length:=by
    rcases Nat.lt_or_ge i res.length with h|h
    ·exact h
    ·exact absurd (.inr h) hb
   have hno:=fun h=>hb (.inl h)
   rcases h1 i hlt with e|e
   ·have e2:aH (res1++new) i=aH res i:=by rw[hget,au hlt,e]
    exact⟨by unfold known at hi⊢;rw[e2]at hi;exact hi,hno,e2⟩
   ·exact absurd e hno)
  (fun i hi hb=>by
   by_cases hlt:i<res.length
   ·rcases hb with⟨b1,b2,b3⟩|hb
    ·refine⟨?_,fun b hf=> .inl ⟨i,⟨b1,b2,b3⟩,b1,hf.2.1⟩⟩
     rw[hget,au hlt];have:(fun b=>i<res.length/\fps i b/\known res i)=fps i:=by funext b;simp[hlt,b1]
     rw[this];exact b3
    ·omega
   ·refine⟨?_,fun b hf=>absurd hf.1 hlt⟩
    rw[hget,ar hlt];have:(fun b=>i<res.length/\fps i b/\known res i)=fun _=>False:=by funext b;simp[hlt]
    rw[this]
    have hk:i-res.length<new.length:=by
     unfold known at hi;rw[hget,ar hlt]at hi;exact aK hi
    have:=h2 (i-res.length) hk;rw[show res.length+(i-res.length)=i by omega]at this
    exact this)
  (fun i j b _ _ hne hf hf'=>h.disj i j b hf.2.2 hf'.2.2 hne hf.2.1 hf'.2.1) rfl rfl rfl (Nat.le_refl _) (fun _ _ _=>rfl)
 exact⟨fps',g,hag,hmono⟩
theorem sS{res:List aI}{k n e z:Nat}{x:V}{T:TL}(hH:aQ J fps res (known res) w0 F0 w)(hr:aH res k= .blk e x)(hl:ok (known res) x->(∀J,cells J x=T.cells)/\∀j,j<T.len->ok (fun _=>False) (T.get j)/\bp (T.get j)=false/\bP (T.get j)=z)(hn:n=T.len)(hs:n<=1000):
  ∃fps',aQ (J.cz res.length (some ⟨J.num k,0,none⟩) n n) fps' (ba [k] res++ [.arr (some e) z T]) (known (ba [k] res++ [.arr (some e) z T])) w0 F0 w/\Env.agree (known res) J (J.cz res.length (some ⟨J.num k,0,none⟩) n n)/\
   (∀i,known res i->known (ba [k] res++ [.arr (some e) z T]) i)/\known (ba [k] res++ [.arr (some e) z T]) res.length:=by
 have hk:known res k:=by unfold known;rw[hr];simp
 have hh:=hH.holds k hk;rw[hr]at hh;obtain⟨h1,_,h3,h4⟩:=hh;obtain⟨hcells,hel⟩:=hl h1;have hcells:=hcells J;have hnk:¬known res res.length:=fun hk=>by have:=aK hk;omega
 have hlen:T.cells.length=n*z:=by
  unfold TL.cells;rw[hn];exact oh fun j hj=>by rw[<-(hel j hj).2.2];exact aO _ _ (hel j hj).1
 have hag:=jF (N:=known res) J (i:=res.length) (a:=some ⟨J.num k,0,none⟩) (n:=n) (cap:=n) hnk
 exact hH.lA (ρ':=J.cz res.length (some ⟨J.num k,0,none⟩) n n) (w':=w) [k] (.arr (some e) z T) [] (fun x=>x=J.num k) (by simp) (by simpa using hk) (by simp) hag
  (by
   refine⟨hel,by simp[Env.cz,hn],by omega,fun a ha=>by simp[Env.cz]at ha⊢;exact ha.symm,fun _=>by simp[Env.cz],fun _=>by simp[Env.cz],.inr ⟨e,fun e' he=>by simpa using he.symm,?_,fun a ha=>by simp[Env.cz]at ha;rw[<-ha]⟩⟩
   rw[show(J.cz res.length (some ⟨J.num k,0,none⟩) n n).sl res.length= .slice (some ⟨J.num k,0,none⟩) n n by simp[Env.sl,Env.cz]]
   rw[hcells]at h4;refine⟨by rw[hlen,hn],.inr ⟨_,_,_,by rw[hn],Nat.zero_le _,h4,Nat.le_refl _,by simp only[maxLen];rw[<-hn];omega,by rw[<-hn];simpa using hlen,?_⟩⟩
   rw[<-hn];exact List.take_of_length_le (by simpa using Nat.le_of_eq hlen))
  (fun x hx=> .inl ⟨k,by simp,by rw[hx];exact h3⟩) rfl rfl rfl (Nat.le_refl _) (fun _ _ _=>rfl)
theorem wK{res:List aI}{k n e:Nat}{x:V}{L:List Obj}(hH:aQ J fps res (known res) w0 F0 w)(hr:aH res k= .blk e x)(hl:As x=some L)(hn:n=L.length)(hs:n<=1000):
  ∃fps',aQ (J.cz res.length (some ⟨J.num k,0,none⟩) n n) fps' (ba [k] res++ [.arr (some e) 163 (.ob L)]) (known (ba [k] res++ [.arr (some e) 163 (.ob L)])) w0 F0 w/\Env.agree (known res) J (J.cz res.length (some ⟨J.num k,0,none⟩) n n)/\
   (∀i,known res i->known (ba [k] res++ [.arr (some e) 163 (.ob L)]) i)/\known (ba [k] res++ [.arr (some e) 163 (.ob L)]) res.length:=
 sS hH hr (fun h1=>⟨(sQ hl h1).1,fun j hj=>⟨(sQ hl h1).2 j hj,rfl,rfl⟩⟩) hn hs
def Env.jx(J:Env)(n m:Nat)(a:Option Addr)(sn cap:Nat):Env:=
 {num:=fun j=>if j=n then m else J.num j,cap:=fun j=>if j=n+1 then cap else J.cap j,adr:=fun j=>if j=n+1 then a.getD ⟨0,0,none⟩else J.adr j,sa:=fun j=>if j=n+1 then a else J.sa j,sn:=fun j=>if j=n+1 then sn else J.sn j,ob:=J.ob}
theorem wD{N:Nat->Prop}{J:Env}{n m:Nat}{a:Option Addr}{sn cap:Nat}(h:¬N n)(h':¬N (n+1)):Env.agree N J (J.jx n m a sn cap):=fun j hj=>by
 have h1:j≠n:=fun e=>h (e▸hj)
 have h2:j≠n+1:=fun e=>h' (e▸hj)
 simp[Env.jx,h1,h2]
theorem tY{J:Env}{fps:Nat->Nat->Prop}{res res':List aI}{k:Nat}{w0 w:World}{F0:Nat->Prop}(ho:tg res k=some res')(hH:aQ J fps res (known res) w0 F0 w):
  ∃ρ' fps',aQ ρ' fps' res' (known res') w0 F0 w/\Good J res ρ' res':=by
 unfold tg at ho;split at ho<;>simp only[aa,reduceCtorEq]at ho
 rename_i t e n sv D Q hr;have hk:known res k:=by unfold known;rw[hr];simp
 have hlt:=aK hk;have hh:=hH.holds k hk;rw[hr]at hh;obtain⟨h1,h2,h3,h4,h5,h6,m,sl,g1,g2,g3,g4,g5⟩:=hh;obtain⟨a,cap,rfl,q1,q2⟩:=tr g4;have hnk:¬known res res.length:=fun hk=>by have:=aK hk;omega
 have hnk':¬known res (res.length+1):=fun hk=>by have:=aK hk;omega
 have hget:∀i,aH res' i=if i<res.length then(if i=k then .blk t (.ag [sv,.mp res.length,.sa (res.length+1)])else aH res i)else if i=res.length then .ms n D else if i=res.length+1 then .que e n Q else .yet:=fun i=>by
  subst ho;rw[bc,a8];by_cases hi:i<res.length
  ·rw[au hi,au hi,aY _ _ _ _ hlt]
  ·rw[ar hi,ar hi];by_cases e:i=res.length
   ·subst e;simp[aH]
   ·rw[ar e];by_cases e1:i=res.length+1
    ·simp_all[aH]
    ·rw[ar e1];obtain⟨m,hm⟩:∃m,i-res.length=m+2:=⟨i-res.length-2,by omega⟩
     rw[hm];simp[aH]
 have k1:known res' res.length:=by unfold known;rw[hget,ar (by omega),au rfl];simp
 have k2:known res' (res.length+1):=by unfold known;rw[hget,ar (by omega),ar (by omega),au rfl];simp
 have hmono:∀i,known res i->known res' i:=fun i hi=>by
  unfold known;rw[hget,au (aK hi)];split
  ·simp
  ·exact hi
 have hag:=wD (J:=J) (m:=m) (a:=a) (sn:=Q.length) (cap:=cap) hnk hnk'
 obtain⟨fps',g⟩:=hH.turn (res':=res') (K':=known res') (fun i=>i=k) (fun i=>i=k\/res.length<=i) (fun i b=>(i=k/\b=J.num k)\/(i=res.length/\b=m)\/(i=res.length+1/\(Value.slice a Q.length cap).ownBlock=some b))
  (fun i hi=>hi) hmono hag
  (fun i hi hb=>by
   have h1:i≠k:=fun e=>hb (.inl e)
   have h2:i<res.length:=by
    rcases Nat.lt_or_ge i res.length with h|h
    ·exact h
    ·exact absurd (.inr h) hb
   have e:aH res' i=aH res i:=by rw[hget,au h2,ar h1]
   exact⟨by unfold known at hi⊢;rw[e]at hi;exact hi,h1,e⟩)
  (fun i hi hb=>by
   have hi':=hi;unfold known at hi';by_cases e1:i=k
   ·subst e1;refine⟨?_,fun b hf=> .inl ⟨i,rfl,hk,?_⟩⟩
    ·rw[hget,au hlt,au rfl];refine⟨⟨⟨bE hmono _ h1,k1,k2,trivial⟩,?_⟩,rfl,.inl ⟨rfl,(hag i hk).1⟩,?_⟩
     ·exact⟨by cases sv<;>first|trivial|simp[bp]at h2,trivial,trivial,trivial⟩
     ·rw[(hag i hk).1,g1,bI];have e1:(den (J.jx res.length m a Q.length cap) sv).cells.toList=cells J sv:=(bw hag sv h1);have e2:den (J.jx res.length m a Q.length cap) (.mp res.length)= .map (some m):=by simp[den,Env.jx]
      have e3:den (J.jx res.length m a Q.length cap) (.sa (res.length+1))= .slice a Q.length cap:=by simp[den,Env.jx]
      simp only[aR,e1,e2,e3,List.append_nil];rfl
    ·rcases hf with⟨_,rfl⟩|⟨e,_⟩|⟨e,_⟩
     ·exact h3
     ·omega
     ·omega
   ·by_cases e2:i=res.length
    ·subst e2;refine⟨?_,fun b hf=> .inl ⟨k,rfl,hk,?_⟩⟩
     ·rw[hget,ar (by omega),au rfl]
      have e:(J.jx res.length m a Q.length cap).num res.length=m:=by simp[Env.jx]
      exact⟨.inr (.inl ⟨rfl,e⟩),h4,by rw[e];exact g3⟩
     ·rcases hf with⟨e,_⟩|⟨_,rfl⟩|⟨e,_⟩
      ·omega
      ·exact g2.1
      ·omega
    ·have e3:i=res.length+1:=by
      rcases hb with hb|hb
      ·exact absurd hb e1
      ·apply Classical.byContradiction
       intro e3;rw[hget,ar (by omega),ar e2,ar e3]at hi'
       exact hi' rfl
     subst e3;refine⟨?_,fun b hf=> .inl ⟨k,rfl,hk,?_⟩⟩
     ·rw[hget,ar (by omega),ar (by omega),au rfl]
      refine⟨h5,by simp[Env.jx],h6,fun x hx=>?_,fun h=>by simpa[Env.jx]using q2 h,by simpa[Env.sl,Env.jx]using g4⟩
      simp only[Env.jx,if_true]at hx⊢;subst hx;exact⟨rfl,(q1 x rfl).1,.inr (.inr ⟨trivial,(q1 x rfl).2⟩)⟩
     ·rcases hf with⟨e,_⟩|⟨e,_⟩|⟨_,hb⟩
      ·omega
      ·omega
      ·exact(g5 b hb).1)
  (fun i j b _ _ hne hf hf'=>by
   rcases hf with⟨rfl,rfl⟩|⟨rfl,rfl⟩|⟨rfl,hb⟩<;>rcases hf' with⟨rfl,h3⟩|⟨rfl,h3⟩|⟨rfl,hb'⟩
   ·exact hne rfl
   ·exact g2.2 h3.symm
   ·exact(g5 _ hb').2.1 rfl
   ·exact g2.2 h3
   ·exact hne rfl
   ·exact(g5 _ hb').2.2 rfl
   ·exact(g5 _ hb).2.1 h3
   ·exact(g5 _ hb).2.2 h3
   ·exact hne rfl)
  rfl rfl rfl (Nat.le_refl _) (fun _ _ _=>rfl)
 exact⟨_,fps',g,hag,hmono⟩
theorem tA{J:Env}{fps:Nat->Nat->Prop}{r r':List aI}{w0 w:World}{F0:Nat->Prop}{k e:Nat}(hs:pV r k e=some r')(h:aQ J fps r (known r) w0 F0 w):
  ∃fps',aQ J fps' r' (known r') w0 F0 w/\∀i,known r i->known r' i:=by
 have main:∀(t m n:Nat) (sv x:V) (D:List (List Int×Int)) (Q:List (List Int)) (q:Option Nat),aH r k= .blk t (.ag [sv,.mp m,x])->aH r m= .ms n D->(∀q',q=some q'->x= .sa q'/\aH r q'= .que e n Q)->(q=none->x= .nl (.slice none 0 0)/\Q= [])->
   (∀i,aH r' i=if i=k then .cset t e n sv D Q else if some i=q then .gone else if i=m then .gone else aH r i)->∃fps',aQ J fps' r' (known r') w0 F0 w/\∀i,known r i->known r' i:=by
  intro t m n sv x D Q q hrk hrm hq hq0 hget;have hkk:known r k:=by unfold known;rw[hrk];simp
  have hkm:known r m:=by unfold known;rw[hrm];simp
  have hmk:m≠k:=fun e=>by rw[e,hrk]at hrm;simp at hrm
  have hqk:∀q',q=some q'->known r q'/\q'≠k/\q'≠m:=fun q' e=>by
   have:=(hq q' e).2;refine⟨by unfold known;rw[this];simp,fun e=>?_,fun e=>?_⟩
   ·rw[e,hrk]at this;simp at this
   ·rw[e,hrm]at this;simp at this
  have hmono:∀i,known r i->known r' i:=fun i hi=>by
   unfold known;rw[hget];split
   ·simp
   ·split
    ·simp
    ·split
     ·simp
     ·exact hi
  have hk1:=h.holds k hkk;rw[hrk]at hk1;obtain⟨b1,b2,b3,b4⟩:=hk1;have hm1:=h.holds m hkm;rw[hrm]at hm1;obtain⟨c1,c2,c3⟩:=hm1
  have hQ:Bw n Q/\Q.length<=9223372036854775807/\∃sl:Value,den J x=sl/\sl.cells.toList= [sl]/\pZ w e n sl Q.length (ee Q)/\∀b,sl.ownBlock=some b->∃q',q=some q'/\fps q' b:=by
   cases hqq:q with
   |none=>
    obtain⟨rfl,rfl⟩:=hq0 hqq;exact⟨fun _ h=>by simp at h,by simp,.slice none 0 0,rfl,rfl,⟨by simp[ee],.inl ⟨rfl,rfl⟩⟩,fun b hb=>by simp[Value.ownBlock]at hb⟩
   |some q'=>
    obtain⟨rfl,hrq⟩:=hq q' hqq;have hq1:=h.holds q' (hqk q' hqq).1;rw[hrq]at hq1;obtain⟨d1,d2,d3,d4,d5,d6⟩:=hq1;refine⟨d1,d3,J.sl q',rfl,rfl,d6,fun b hb=>⟨q',rfl,?_⟩⟩
    cases ha:J.sa q' with
    |none=>simp[Env.sl,ha,Value.ownBlock]at hb
    |some a=>
     simp only[Env.sl,ha,Value.ownBlock,aa]at hb;subst hb;exact(d4 a ha).2.2
  obtain⟨x1,x2,sl,x3,x3',x4,x5⟩:=hQ
  obtain⟨fps',g⟩:=h.turn (res':=r') (K':=known r') (fun i=>i=k\/i=m\/some i=q) (fun i=>i=k\/i=m\/some i=q) (fun i b=>i=k/\(fps k b\/fps m b\/∃q',q=some q'/\fps q' b)) (fun i hi=>hi) hmono (Env.agree.refl _ _)
   (fun i hi hb=>by
    have h1:i≠k:=fun e=>hb (.inl e)
    have h2:i≠m:=fun e=>hb (.inr (.inl e))
    have h3:some i≠q:=fun e=>hb (.inr (.inr e))
    have e:aH r' i=aH r i:=by rw[hget,ar h1,ar h3,ar h2]
    exact⟨by unfold known at hi⊢;rw[e]at hi;exact hi,hb,e⟩)
   (fun i hi hb=>by
    by_cases e1:i=k
    ·subst e1;refine⟨?_,fun b hf=>?_⟩
     ·rw[hget,au rfl];refine⟨bE hmono _ b1.1.1,?_,⟨rfl,.inl b3⟩,c2,x1,x2,J.num m,sl,?_,⟨⟨rfl,.inr (.inl c1)⟩,fun e=>h.disj m i _ hkm hkk hmk c1 (e▸b3)⟩,c3,x4,fun b hb=>?_⟩
      ·have:=b1.2;cases sv<;>first|rfl|exact absurd this.1 (by simp[oE])
      ·rw[b4,bI];have e2:den J (.mp m)= .map (some (J.num m)):=rfl;simp only[aR,e2,x3,x3',List.append_nil];rfl
      ·obtain⟨q',e,hf⟩:=x5 b hb;obtain⟨p1,p2,p3⟩:=hqk q' e;exact⟨⟨rfl,.inr (.inr ⟨q',e,hf⟩)⟩,fun e=>h.disj q' i b p1 hkk p2 hf (e▸b3),fun e=>h.disj q' m b p1 hkm p3 hf (e▸c1)⟩
     ·rcases hf.2 with hf|hf|⟨q',e,hf⟩
      ·exact .inl ⟨i,.inl rfl,hkk,hf⟩
      ·exact .inl ⟨m,.inr (.inl rfl),hkm,hf⟩
      ·exact .inl ⟨q',.inr (.inr e.symm),(hqk q' e).1,hf⟩
    ·refine⟨?_,fun b hf=>absurd hf.1 e1⟩
     rw[hget,ar e1];split
     ·trivial
     ·rename_i hn;split
      ·trivial
      ·rename_i hn';rcases hb with hb|hb|hb
       ·exact absurd hb e1
       ·exact absurd hb hn'
       ·exact absurd hb hn)
   (fun i j b _ _ hne' hf hf'=>hne' (hf.1.trans hf'.1.symm))
   rfl rfl rfl (Nat.le_refl _) (fun _ _ _=>rfl)
  exact⟨fps',g,hmono⟩
 unfold pV at hs;split at hs
 case h_2=>simp at hs
 rename_i t c hrk;split at hs
 case h_2=>simp at hs
 rename_i l;split at hs
 case h_2=>simp at hs
 rename_i sv m' x;split at hs
 case h_2=>simp at hs
 rename_i m;split at hs
 case h_2=>simp at hs
 rename_i n D hrm;have hlk:k<r.length:=aK (by rw[hrk];simp)
 have hlm:m<r.length:=aK (by rw[hrm];simp)
 split at hs
 case h_3=>simp at hs
 ·rename_i v;split at hs
  case h_2=>simp at hs
  rename_i a b c;split at hs
  case h_2=>simp at hs
  split at hs<;>simp only[aa,reduceCtorEq]at hs
  rename_i hc;simp only[ah,aj]at hc;obtain⟨rfl,rfl⟩:=hc;refine main t m n sv _ D [] none hrk hrm (by simp) (fun _=>⟨rfl,rfl⟩) fun i=>?_
  subst hs;rw[aY _ _ _ _ (by rw[a8];exact hlk),aY _ _ _ _ hlm]
  simp
 ·rename_i q;split at hs
  case h_2=>simp at hs
  rename_i e' n' Q hrq;split at hs<;>simp only[aa,reduceCtorEq]at hs
  rename_i hc;simp only[ah,aj]at hc;obtain⟨rfl,rfl⟩:=hc;have hlq:q<r.length:=aK (by rw[hrq];simp)
  refine main t m n' sv _ D Q (some q) hrk hrm (fun q' e=>by simp only[aa]at e;subst e;exact⟨rfl,hrq⟩) (by simp) fun i=>?_
  subst hs;rw[aY _ _ _ _ (by rw[a8,a8];exact hlk),aY _ _ _ _ (by rw[a8];exact hlq),aY _ _ _ _ hlm]
  simp
theorem yw{U σ':St}{g:Gh}(h:xV U g=some σ')(hr:fq J fps U w0 F0 a w):∃ρ' fps',fq ρ' fps' σ' w0 F0 a w/\Good J U.res ρ' σ'.res:=by
 have hnk:¬known U.res U.res.length:=fun hk=>by have:=aK hk;omega
 have hag:Env.agree (known U.res) J (J.cX U.res.length):=uD hnk;have hr0:=hr;obtain⟨r1,r2,r3,r4⟩:=hr;have cell1:∀(l:List V),aR (J.cX U.res.length) l=aR (J.cX U.res.length) l:=fun _=>rfl
 unfold xV at h;split at h
 ·rename_i c ty;split at h<;>simp only[aa,reduceCtorEq]at h
  rename_i t hc;subst h;have hkc:known U.res c:=by unfold known;rw[hc];simp
  have hlt:=aK hkc;have hh:=r2.holds c hkc;rw[hc]at hh;obtain⟨_,_,h3,h4⟩:=hh
  have hkn:known (bd U.res c (.blk t (.ag [.sa U.res.length]))++ [.obs ty (U.res.length+1) [],.gen U.res.length]) U.res.length:=by
   simp_all[known,bc,a8,aH]
  have hkn':known (bd U.res c (.blk t (.ag [.sa U.res.length]))++ [.obs ty (U.res.length+1) [],.gen U.res.length]) (U.res.length+1):=by
   unfold known;rw[bc,a8,ar (by omega),show U.res.length+1-U.res.length=1 by omega];simp[aH]
  obtain⟨fps',g1,g2,g3⟩:=r2.beside hag (bd U.res c (.blk t (.ag [.sa U.res.length]))) [.obs ty (U.res.length+1) [],.gen U.res.length] (a8 _ _ _)
   (fun i hi=>by
    rw[aY _ _ _ _ hlt];by_cases e:i=c
    ·subst e;refine .inr ⟨hkc,by unfold known;rw[aY _ _ _ _ hlt];simp,?_⟩
     simp only[if_true];refine⟨⟨⟨hkn,trivial⟩,trivial,trivial⟩,rfl,by rw[(hag i hkc).1];exact h3,?_⟩
     rw[(hag i hkc).1,h4];rw[bI,bI];simp only[aR,mM];rfl
    ·exact .inl (by rw[ar e]))
   (fun k hk=>by
    have:k=0\/k=1:=by simp at hk;omega
    rcases this with rfl|rfl
    ·simp only[Nat.add_zero];refine⟨hkn',by simp,by simp[Env.cX],by simp,by simp[Env.cX],by simp,?_,by simp⟩
     have:(J.cX U.res.length).sl U.res.length= .slice none 0 0:=by simp[Env.sl,Env.cX]
     rw[this];exact World.ownsRow_nil w 0 ty 1
    ·trivial)
  obtain⟨d1,d2⟩:=bY r4 g2 g3;exact⟨_,fps',⟨r1.env g3 g2,g1,by rw[r3];exact d1.symm,d2⟩,g2,g3⟩
 ·rename_i c e esz l;split at h
  ·rename_i t hc;split at h<;>simp only[aa,reduceCtorEq]at h
   rename_i hl;obtain⟨l1,l2⟩:=wM hl;subst h;have hkc:known U.res c:=by unfold known;rw[hc];simp
   have hlt:=aK hkc;have hh:=r2.holds c hkc;rw[hc]at hh;obtain⟨_,_,h3,h4⟩:=hh
   have hkn:known (bd U.res c (.blk t (.sa U.res.length))++ [.arr (some e) esz l]) U.res.length:=by
    simp_all[known,bc,a8,aH]
   obtain⟨fps',g1,g2,g3⟩:=r2.beside hag (bd U.res c (.blk t (.sa U.res.length))) [.arr (some e) esz l] (a8 _ _ _)
    (fun i hi=>by
     rw[aY _ _ _ _ hlt];by_cases e:i=c
     ·subst e;refine .inr ⟨hkc,by unfold known;rw[aY _ _ _ _ hlt];simp,?_⟩
      simp only[if_true];refine⟨hkn,rfl,by rw[(hag i hkc).1];exact h3,?_⟩
      rw[(hag i hkc).1,h4];simp only[cells,mM];rfl
     ·exact .inl (by rw[ar e]))
    (fun k hk=>by
     have:k=0:=by simp at hk;omega
     subst this;simp only[Nat.add_zero];have hs:(J.cX U.res.length).sl U.res.length= .slice none 0 0:=by simp[Env.sl,Env.cX]
     refine⟨fun j hj=>by omega,by simp[Env.cX,l1],by omega,by simp[Env.cX],fun hj=>by omega,fun hj=>by omega,.inr ⟨e,by simp,?_,by simp[Env.cX]⟩⟩
     rw[hs,l1,l2];exact World.ownsRow_nil w 0 e esz)
   obtain⟨d1,d2⟩:=bY r4 g2 g3;exact⟨_,fps',⟨r1.env g3 g2,g1,by rw[r3];exact d1.symm,d2⟩,g2,g3⟩
  ·simp at h
 ·rename_i t e esz l;split at h
  ·rename_i ht;split at h<;>simp only[aa,reduceCtorEq]at h
   rename_i hl;obtain⟨l1,l2⟩:=wM hl;subst h
   have hkn:known (U.res++ [.arr (some e) esz l]) U.res.length:=by
    unfold known;rw[bc,ar (by omega)];simp[aH]
   obtain⟨fps',g1,g2,g3⟩:=r2.beside hag U.res [.arr (some e) esz l] rfl (fun i _=> .inl rfl)
    (fun k hk=>by
     have:k=0:=by simp at hk;omega
     subst this;simp only[Nat.add_zero];have hs:(J.cX U.res.length).sl U.res.length= .slice none 0 0:=by simp[Env.sl,Env.cX]
     refine⟨fun j hj=>by omega,by simp[Env.cX,l1],by omega,by simp[Env.cX],fun hj=>by omega,fun hj=>by omega,.inr ⟨e,by simp,?_,by simp[Env.cX]⟩⟩
     rw[hs,l1,l2];exact World.ownsRow_nil w 0 e esz)
   obtain⟨d1,d2⟩:=bY r4 g2 g3;refine⟨_,fps',⟨⟨by rw[dz,eL];exact r1.1,fun u=>?_⟩,g1,by rw[r3];exact d1.symm,d2⟩,g2,g3⟩
   have hc:=(r1.clean.env g3 g2).2 u;rw[dc];by_cases e:u=t/\t<(clean U.slots).length
   ·rw[au e];obtain⟨rfl,_⟩:=e;have:=r1.2 u;rw[ht]at this;refine⟨?_,hkn⟩;rw[this.1,mM];rfl
   ·rw[ar e];rw[fh]at hc⊢;cases hs:bh U.slots u<;>rw[hs]at hc<;>exact hc
  ·simp at h
 ·rename_i t;split at h
  case h_2=>simp at h
  rename_i k ht;split at h
  case h_3=>simp at h
  case h_2=>
   rename_i own esz l hrk;simp only[aa]at h;subst h;obtain⟨fps',g1,g2,g3,g4⟩:=FL r2 hrk;obtain⟨d1,d2⟩:=bY r4 g2 g3;refine⟨_,fps',⟨⟨by rw[dz,eL];exact r1.1,fun u=>?_⟩,g1,by rw[r3];exact d1.symm,d2⟩,g2,g3⟩
   have hc:=(r1.clean.env g3 g2).2 u;rw[dc];by_cases e:u=t/\t<(clean U.slots).length
   ·rw[au e];obtain⟨rfl,_⟩:=e;have:=r1.2 u;rw[ht]at this;refine⟨?_,g4⟩;rw[this.1];simp[den,Env.dS]
   ·rw[ar e];rw[fh]at hc⊢;cases hs:bh U.slots u<;>rw[hs]at hc<;>exact hc
  rename_i r hrk;split at h
  case h_2=>simp at h
  rename_i own esz l;simp only[aa]at h;subst h;have hkk:known U.res k:=by unfold known;rw[hrk];simp
  have hkl:=aK hkk;have hne:k≠U.res.length:=by omega
  have hag:Env.agree (known U.res) J (J.dS U.res.length k):=kQ hnk
  have hkn:known (U.res++ [.arr none esz l]) U.res.length:=by
   unfold known;rw[bc,ar (by omega)];simp[aH]
  have hro:=r2.holds k hkk;rw[hrk]at hro
  obtain⟨fps',g1,g2,g3⟩:=r2.beside hag U.res [.arr none esz l] rfl (fun i _=> .inl rfl)
   (fun m hm=>by
    have:m=0:=by simp at hm;omega
    subst this;exact El (C2 (K':=fun _=>True) (fp2:=fun _=>False) hro))
  obtain⟨d1,d2⟩:=bY r4 g2 g3;refine⟨_,fps',⟨⟨by rw[dz,eL];exact r1.1,fun u=>?_⟩,g1,by rw[r3];exact d1.symm,d2⟩,g2,g3⟩
  have hc:=(r1.clean.env g3 g2).2 u;rw[dc];by_cases e:u=t/\t<(clean U.slots).length
  ·rw[au e];obtain⟨rfl,_⟩:=e;have:=r1.2 u;rw[ht]at this;refine⟨?_,hkn⟩;rw[this.1];simp[den,Env.dS]
  ·rw[ar e];rw[fh]at hc⊢;cases hs:bh U.slots u<;>rw[hs]at hc<;>exact hc
 ·rename_i c;split at h
  case h_2=>simp at h
  rename_i t v hc;split at h
  case h_2=>simp at h
  rename_i k q n hv;have hv:=CG hv;subst hv;split at h
  case h_2=>simp at h
  rename_i r hrk;split at h
  case h_2=>simp at h
  rename_i own esz l;simp only[aa]at h;subst h;have hkk:known U.res k:=by unfold known;rw[hrk];simp
  have hkc:known U.res c:=by unfold known;rw[hc];simp
  have hlt:=aK hkc;have hag:Env.agree (known U.res) J (J.dS U.res.length k):=kQ hnk
  have hkn:known (bd U.res c (.blk t (.ag [.sa U.res.length,.it q n]))++ [.arr none esz l]) U.res.length:=by
   unfold known;rw[bc,a8,ar (by omega)];simp[aH]
  have hro:=r2.holds k hkk;rw[hrk]at hro;have hh:=r2.holds c hkc;rw[hc]at hh;obtain⟨b1,b2,b3,b4⟩:=hh
  obtain⟨fps',g1,g2,g3⟩:=r2.beside hag (bd U.res c (.blk t (.ag [.sa U.res.length,.it q n]))) [.arr none esz l] (a8 _ _ _)
   (fun i hi=>by
    rw[aY _ _ _ _ hlt];by_cases e:i=c
    ·subst e;refine .inr ⟨hkc,by unfold known;rw[aY _ _ _ _ hlt];simp,?_⟩
     simp only[if_true];refine⟨⟨⟨hkn,b1.1.2.1,trivial⟩,b1.2⟩,b2,by rw[(hag i hkc).1];exact b3,?_⟩
     rw[(hag i hkc).1,b4,bI,bI];simp[aR,cells,den,Env.dS]
    ·exact .inl (by rw[ar e]))
   (fun m hm=>by
    have:m=0:=by simp at hm;omega
    subst this;exact El (C2 (K':=fun _=>True) (fp2:=fun _=>False) hro))
  obtain⟨d1,d2⟩:=bY r4 g2 g3;exact⟨_,fps',⟨r1.env g3 g2,g1,by rw[r3];exact d1.symm,d2⟩,g2,g3⟩
 ·rename_i t;split at h
  case h_2=>simp at h
  rename_i v ht;split at h
  case h_2=>simp at h
  rename_i k n c;split at h
  case h_2=>simp at h
  rename_i e x hrk;split at h
  case h_2=>simp at h
  rename_i L hL;split at h
  case isFalse=>simp at h
  rename_i hb;simp only[ah,aj,Nat.ble_eq]at hb;obtain⟨⟨hn,rfl⟩,hle⟩:=hb;simp only[aa]at h;subst h;obtain⟨fps',g1,g2,g3,g4⟩:=wK r2 hrk hL hn hle;obtain⟨d1,d2⟩:=bY r4 g2 g3;refine⟨_,fps',⟨⟨by rw[dz,eL];exact r1.1,fun u=>?_⟩,g1,by rw[r3];exact d1.symm,d2⟩,g2,g3⟩
  have hc:=(r1.clean.env g3 g2).2 u;rw[dc];by_cases e:u=t/\t<(clean U.slots).length
  ·rw[au e];obtain⟨rfl,_⟩:=e;have:=r1.2 u;rw[ht]at this;refine⟨?_,g4⟩;rw[this.1];simp[den,Env.cz]
  ·rw[ar e];rw[fh]at hc⊢;cases hs:bh U.slots u<;>rw[hs]at hc<;>exact hc
 ·rename_i c;split at h
  case h_2=>simp at h
  rename_i t v hc;split at h
  case h_2=>simp at h
  rename_i k n cp;split at h
  case h_2=>simp at h
  rename_i e x hrk;split at h
  case h_2=>simp at h
  rename_i L hL;split at h
  case isFalse=>simp at h
  rename_i hb;simp only[ah,aj,Nat.ble_eq,Bool.not_eq_true',beq_eq_false_iff_ne]at hb;obtain⟨⟨⟨hn,rfl⟩,hle⟩,hkc⟩:=hb;simp only[aa]at h;subst h;obtain⟨fps',g1,g2,g3,g4⟩:=sS (z:=1) (T:= .st L) r2 hrk (fun _=>Bn hL) hn hle
  have hck:known U.res c:=by unfold known;rw[hc];simp
  have hcl:=aK hck
  have hget:aH (ba [k] U.res++ [.arr (some e) 1 (.st L)]) c= .blk t (.sc k cp cp):=by
   rw[bc,eR,au hcl];show aH (bd U.res k .gone) c=_
   rw[aY _ _ _ _ (aK (by rw[hrk];simp)),ar (fun e=>hkc e.symm)]
   exact hc
  have hck':known (ba [k] U.res++ [.arr (some e) 1 (.st L)]) c:=by unfold known;rw[hget];simp
  have hh:=g1.holds c hck';rw[hget]at hh;have g1':=g1.write (c':= .sa U.res.length) (w':=w) hget g4 rfl rfl rfl rfl rfl (by rw[hh.2.2.2];simp[cells,den,Env.cz,(g2 k (by unfold known;rw[hrk];simp)).1]) (fun _ _=>rfl)
  have hkn:∀i,known (bd (ba [k] U.res++ [.arr (some e) 1 (.st L)]) c (.blk t (.sa U.res.length))) i↔known (ba [k] U.res++ [.arr (some e) 1 (.st L)]) i:=fun i=>by
   unfold known;rw[aY _ _ _ _ (aK hck')];split
   ·rename_i e;subst e;simp[hget]
   ·rfl
  have hkk:known (bd (ba [k] U.res++ [.arr (some e) 1 (.st L)]) c (.blk t (.sa U.res.length)))=known (ba [k] U.res++ [.arr (some e) 1 (.st L)]):=funext fun i=>propext (hkn i)
  obtain⟨d1,d2⟩:=bY r4 g2 g3;refine⟨_,fps',⟨?_,?_,by rw[r3];exact d1.symm,?_⟩,g2,fun i hi=>(hkn i).2 (g3 i hi)⟩
  ·simp only[hkk];exact r1.env g3 g2
  ·simp only[hkk];exact g1'
  ·simp only[hkk];exact d2
 ·rename_i k;split at h
  case h_2=>simp at h
  rename_i r hr';simp only[aa]at h;subst h;obtain⟨ρ',fps',g1,g2,g3⟩:=tY hr' r2;obtain⟨d1,d2⟩:=bY r4 g2 g3;exact⟨ρ',fps',⟨r1.clean.env g3 g2,g1,by rw[r3];exact d1.symm,d2⟩,g2,g3⟩
 ·rename_i k e;split at h
  case h_2=>simp at h
  rename_i r hr';simp only[aa]at h;subst h;obtain⟨fps',g1,g3⟩:=tA hr' r2;obtain⟨d1,d2⟩:=bY (J:=J) (ρ':=J) r4 (Env.agree.refl _ _) g3;exact⟨J,fps',⟨r1.clean.env g3 (Env.agree.refl _ _),g1,r3,d2⟩,Env.agree.refl _ _,g3⟩
 ·simp only[aa]at h;subst h
  obtain⟨fps',g1,g2,g3⟩:=r2.beside hag U.res [.dfr] rfl (fun i hi=> .inl rfl) (fun k hk=>by
   simp only[List.length_singleton,Nat.lt_one_iff]at hk;subst hk;refine⟨fun j hj=>?_,fun j k hj=>?_⟩
   ·simp[Env.cX]at hj
   ·simp[Env.cX]at hj)
  obtain⟨d1,d2⟩:=bY r4 g2 g3;refine⟨_,fps',⟨r1.env g3 g2,g1,?_,fun d hd=>?_⟩,g2,g3⟩
  ·rw[List.flatMap_cons,d1,r3];simp[fD,tt,Env.cX]
  ·rcases List.mem_cons.1 hd with rfl|hd
   ·refine⟨⟨?_,trivial⟩,trivial⟩;show known (U.res++ [.dfr]) U.res.length
    unfold known;rw[bc,ar (by omega)]
    simp[aH]
   ·exact d2 d hd
def Env.rM(J:Env)(i p q:Nat):Env:= {J with sn:=fun j=>if j=i then J.sn p+J.sn q else J.sn j,ob:=fun j=>if j=i then fun x=>if x<J.sn p then J.ob p x else J.ob q (x-J.sn p)else J.ob j}
def yB(n:Nat)(U:St):Option St:=
 match U.defs with
 |d1::l=>match l with
  |d2::rest=>match tt d1.2.1 with
   |some p=>match tt d2.2.1 with
    |some q=>match aH U.res p with
     | .dfr=>match aH U.res q with
       | .dfr=>if p==q||Nat.blt U.res.length n then none else some {U with defs:=(0,[.yl U.res.length],[])::rest,res:=ba [p,q] U.res++ [.dfr]}
       |_=>none
     |_=>none
    |none=>none
   |none=>none
  | []=>none
 | []=>none
def we(n:Nat):Nat->St->Option St
 |0,U=>some U
 |k+1,U=>match yB n U with
  |some s=>we n k s
  |none=>none
theorem yu{α:Type}(f g h:Nat->α)(m k:Nat)(h1:∀j,j<m->f j=g j)(h2:∀j,j<k->f (m+j)=h j):(List.range (m+k)).map f=(List.range m).map g++(List.range k).map h:=by
 induction k with
 |zero=>simp only[Nat.add_zero,List.range_zero,List.map_nil,List.append_nil];exact List.map_congr_left fun j hj=>h1 j (List.mem_range.1 hj)
 |succ k ih=>
  rw[<-Nat.add_assoc,List.range_succ,List.range_succ,List.map_append,List.map_append,ih fun j hj=>h2 j (by omega),List.append_assoc]
  simp[h2 k (by omega)]
theorem yh{n:Nat}{U σ':St}(h:yB n U=some σ')(hr:fq J fps U w0 F0 a w):∃ρ' fps',fq ρ' fps' σ' w0 F0 a w/\Env.agree (fun i=>i<n) J ρ':=by
 obtain⟨r1,r2,r3,r4⟩:=hr;unfold yB at h;split at h
 case h_2=>simp at h
 rename_i d1 l hd;split at h
 case h_2=>simp at h
 rename_i d2 rest;split at h
 case h_2=>simp at h
 rename_i p hp;split at h
 case h_2=>simp at h
 rename_i q hq;split at h
 case h_2=>simp at h
 rename_i hrp;split at h
 case h_2=>simp at h
 rename_i hrq;split at h
 case isTrue=>simp at h
 rename_i hc;simp only[aa]at h;subst h;simp only[Bool.or_eq_true,aj,not_or]at hc;obtain⟨hpq,hn⟩:=hc
 have hn:n<=U.res.length:=by
  simp_all
 have hkp:known U.res p:=by unfold known;rw[hrp];simp
 have hkq:known U.res q:=by unfold known;rw[hrq];simp
 have hlp:=aK hkp;have hlq:=aK hkq;have hP:=r2.holds p hkp;have hQ:=r2.holds q hkq;rw[hrp]at hP;rw[hrq]at hQ;obtain⟨P1,P2⟩:=hP;obtain⟨Q1,Q2⟩:=hQ
 have hag:Env.agree (fun i=>i<U.res.length) J (J.rM U.res.length p q):=fun i hi=>by
  grind[Env.rM]
 have hagk:Env.agree (known U.res) J (J.rM U.res.length p q):=hag.mono fun i hi=>aK hi
 obtain⟨fps',g1,g2,g3,g4⟩:=r2.lA (w':=w) (ρ':=J.rM U.res.length p q) [p,q] .dfr [] (fun b=>fps p b\/fps q b) (by simp) (fun t ht=>by
   rcases List.mem_cons.1 ht with rfl|ht
   ·exact hkp
   ·simp at ht;subst ht;exact hkq) (by simp) hagk
  (by
   refine⟨fun j hj=>?_,fun j k hj hk e=>?_⟩
   ·simp only[Env.rM,if_true]at hj⊢;by_cases hjp:j<J.sn p
    ·rw[au hjp];exact⟨.inl (P1 j hjp).1,(P1 j hjp).2⟩
    ·rw[ar hjp];exact⟨.inr (Q1 _ (by omega)).1,(Q1 _ (by omega)).2⟩
   ·simp only[Env.rM,if_true]at hj hk e;by_cases hjp:j<J.sn p<;>by_cases hkp':k<J.sn p
    ·rw[au hjp,au hkp']at e;exact P2 j k hjp hkp' e
    ·rw[au hjp,ar hkp']at e;exact absurd (by rw[e];exact(Q1 _ (by omega)).1) (r2.disj p q _ hkp hkq hpq (P1 j hjp).1)
    ·rw[ar hjp,au hkp']at e;exact absurd (by rw[<-e];exact(Q1 _ (by omega)).1) (r2.disj p q _ hkp hkq hpq (P1 k hkp').1)
    ·rw[ar hjp,ar hkp']at e;have:=Q2 _ _ (by omega) (by omega) e
     omega)
  (fun b hb=> .inl (hb.elim (fun h=>⟨p,by simp,h⟩) fun h=>⟨q,by simp,h⟩)) rfl rfl rfl (Nat.le_refl _) (fun _ _ _=>rfl)
 have hl:∀d∈rest,cm (known U.res) d.2.1/\cm (known U.res) d.2.2:=fun d hd'=>r4 d (by rw[hd];simp[hd'])
 obtain⟨e1,e2⟩:=bY hl hagk g3;refine⟨_,fps',⟨r1.env g3 hagk,g1,?_,fun d hd'=>?_⟩,hag.mono fun i hi=>by omega⟩
 ·rw[r3,hd];simp only[List.flatMap_cons];rw[e1,<-List.append_assoc];congr 1
  unfold fD;rw[hp,hq];simp only[tt];simp only[Env.rM,if_true];exact(yu _ _ _ _ _ (fun j hj=>by rw[au hj]) fun j hj=>by rw[ar (by omega),show J.sn p+j-J.sn p=j by omega]).symm
 ·rcases List.mem_cons.1 hd' with rfl|hd'
  ·exact⟨⟨g4,trivial⟩,trivial⟩
  ·exact e2 d hd'
theorem tB{n:Nat}:∀{k:Nat} {U σ':St} {J:Env} {fps:Nat->Nat->Prop},we n k U=some σ'->fq J fps U w0 F0 a w->∃ρ' fps',fq ρ' fps' σ' w0 F0 a w/\Env.agree (fun i=>i<n) J ρ'
 |0,U,σ',J,fps,h,hr=>by simp only[we,aa]at h;subst h;exact⟨J,fps,hr,Env.agree.refl _ _⟩
 |k+1,U,σ',J,fps,h,hr=>by
  simp only[we]at h;split at h
  ·rename_i s hs;obtain⟨ρ1,fps1,g1,g2⟩:=yh hs hr;obtain⟨ρ2,fps2,g3,g4⟩:=tB h g1;exact⟨ρ2,fps2,g3,g2.trans g4 fun i hi=>hi⟩
  ·simp at h
theorem gT:∀{l:List Gh} {U σ':St} {J:Env} {fps:Nat->Nat->Prop},kG l U=some σ'->fq J fps U w0 F0 a w->∃ρ' fps',fq ρ' fps' σ' w0 F0 a w/\Good J U.res ρ' σ'.res
 | [],U,σ',J,fps,h,hr=>by simp only[kG,aa]at h;subst h;exact⟨J,fps,hr,Good.refl _ _⟩
 |g::l,U,σ',J,fps,h,hr=>by
  simp only[kG]at h;split at h
  ·rename_i σ1 h1;obtain⟨ρ1,fps1,g1,g2⟩:=yw h1 hr;obtain⟨ρ2,fps2,g3,g4⟩:=gT h g1;exact⟨ρ2,fps2,g3,g2.trans g4⟩
  ·simp at h
end
end Go.Sx
