import Derived.Test.YtlblcfaclmpekaaGreatSpR
set_option linter.unusedSimpArgs false
set_option linter.unusedVariables false
set_option maxRecDepth 100000
namespace Go.Sx
structure k7 where
 kind:Int
 proc:Int
 reg:Int
 mode:Int
 code:Int
 data:ByteArray
 s0:Int
 s1:Int
 s2:Int
 num:Bool
 val:Int
def Lu (o:k7):V:= .ag [.it .i64 o.kind,.it .i64 o.proc,.it .i64 o.reg,.it .i64 o.mode,.it .i64 o.code,.st o.data,.ag [.it .i64 o.s0,.it .i64 o.s1,.it .i64 o.s2],.bo o.num,.it .i64 o.val]
structure Dn where
 out:Int
 proc:Int
 err:Int
 ans:bh
 wants:Bool
def TD (d:Dn):V:= .ag [.it .i64 d.out,.it .i64 d.proc,.it .i64 d.err,qQ d.ans,.bo d.wants]
def U8:Dn:=⟨0,0,0,ee,false⟩
def wv (n:Int):Bool:=decide (0<=n)&&decide (n<12)
def gu (n:Int):Bool:=decide (n= -1)||wv n
def dO (o:k7) (now:Int):Bool:=
 if o.kind=2 then decide (0<=o.val)&&decide (o.val<=1099511627776)&&decide (now<=4611686018427387904-o.val)
 else decide (o.kind=1)&&decide (1<=o.mode)&&decide (o.mode<=3)&&decide (cC o.data<=32)&&wv o.reg&&gu o.s0&&gu o.s1&&gu o.s2
def DY (o:Obj) (n:Int):Key:=if n<0 then void else o.slots.at (4+n).toNat
def bp (o:Obj) (p:k7):bh:=⟨p.code,p.data,DY o p.s0,DY o p.s1,if p.num=true then c8 p.val else DY o p.s2⟩
def eJ (L:List Obj):List Int:=eI L (b6 (aq L))
def dT (L:List Obj) (p:k7):Int:=ak (eJ L) ((p.proc.tmod (aq (eJ L):Int)+(aq (eJ L):Int)).tmod (aq (eJ L):Int)).toNat 0
def cE (L:List Obj) (p:k7):Key:=ae L ((aC L (dT L p)).slots.at (4+p.reg).toNat)
def cJ (L:List Obj) (p:k7):bh:=bp (aC L (dT L p)) p
def wX (L:List Obj) (p:k7):Bool:=decide ((cE L p).kind=6)||decide ((cE L p).kind=7)
def gZ (L:List Obj) (n:Int) (p:k7):List Obj:=mJ L n (cE L p) (cJ L p)
def Ei (L:List Obj) (n:Int) (p:k7):List Obj:=
 if dc (gZ L n p) (dT L p)=true/\gE (gZ L n p) (dT L p)=1 then
  if p.mode=1 then j7 (gZ L n p) (dT L p) (bE L n (cE L p) (cJ L p))else if p.mode=3 then iw (gZ L n p) (dT L p) 0 else gZ L n p
 else gZ L n p
def eu (L:List Obj) (n:Int) (p:k7):List Obj:=
 if dO p n=true/\¬p.kind=2/\¬aq (eJ L)=0 then
  if wX L p=true then fz L (dT L p) (cE L p) p.mode (cJ L p)else Ei L n p
 else L
def gA (n:Int) (p:k7):Int:=if dO p n=true/\p.kind=2 then n+p.val else n
def eT (n:Int) (p:k7):Int:=if dO p n=true then 0 else 2
def aK (L:List Obj) (n:Int) (p:k7):Dn:=
 if dO p n=true then
  if p.kind=2 then⟨5,0,0,ee,false⟩
  else if aq (eJ L)=0 then⟨1,0,0,ee,false⟩
  else if wX L p=true then
   if cD L (dT L p) (cE L p) p.mode (cJ L p)=0 then⟨2,dT L p,0,ee,false⟩else⟨3,dT L p,cD L (dT L p) (cE L p) p.mode (cJ L p),ee,false⟩
  else⟨4,dT L p,0,bE L n (cE L p) (cJ L p),iv L n (cE L p) (cJ L p)⟩
 else U8
def gF (n:Int):Prop:=0<=n/\n<=4611686018427387904
end Go.Sx
set_option maxRecDepth 100000
namespace Go.Sx
abbrev vY:Nat:=85
def oO (s:Nat) (n:Int):V:= .ag [.lp s 0,.it .i64 n]
def H9 (c:V):Option (Nat×Int):=
 match c with
 | .ag m=>match m with
   | [p,y]=>match p with
     | .lp s off=>match rI .i64 y with
       |some n=>if off==0 then some (s,n)else none
       |none=>none
     |_=>none
   |_=>none
 |_=>none
def U6:Arg (Int×Int×Int×Unit):=RI (bG iA (bG iA (bG iA kD)))
theorem Rf:mn U6:=CX (aN fN (aN fN (aN fN dX)))
abbrev Ux:Type:=Int×Int×Int×Int×Int×ByteArray×(Int×Int×Int×Unit)×Bool×Int×Unit
def Ur:Arg Ux:=RI (bG iA (bG iA (bG iA (bG iA (bG iA (bG zA (bG U6 (bG bA (bG iA kD)))))))))
theorem JX:mn Ur:=CX (aN fN (aN fN (aN fN (aN fN (aN fN (aN Ti (aN Rf (aN OV (aN fN dX)))))))))
def Ga (x:Ux):k7:=⟨x.1,x.2.1,x.2.2.1,x.2.2.2.1,x.2.2.2.2.1,x.2.2.2.2.2.1,x.2.2.2.2.2.2.1.1,x.2.2.2.2.2.2.1.2.1,x.2.2.2.2.2.2.1.2.2.1,x.2.2.2.2.2.2.2.1,x.2.2.2.2.2.2.2.2.1⟩
def Fa:lR (Ux×Unit):=bG Ur kD
theorem JL:ij Fa:=aN JX dX
theorem yr {c:V} {s:Nat} {n:Int} (h:H9 c=some (s,n)):∃y,c= .ag [.lp s 0,y]/\rI .i64 y=some n:=by
 unfold H9 at h;repeat' (first| (split at h<;>try(simp at h;done))|skip)
 rename_i y n' hn ho;simp only[VE,VF]at h;obtain⟨rfl,rfl⟩:=h;have:=VI.1 ho;subst this;exact⟨_,rfl,hn⟩
theorem aj.Qb {P:Program} {f:Nat} {rest:List V} {res:List aB} {K KP:V->List aB->Prop} {b s tm t e:Nat} {L M:List Obj} {n n':Int} {x:V}
  (hb:an res b= .blk tm (oO s n)) (hs:an res s= .store t e L) (hid:k9 rest=true) (hx:j4 x=true)
  (h:aj P f (.lp 0 0::rest) [.blk tm (oO 1 n),.store t e L] (fun v r=>vK x v r/\an r 0= .blk tm (oO 1 n')/\an r 1= .store t e M) (fun _ _=>False))
  (hK:K x (br (br res b (.blk tm (oO s n'))) s (.store t e M))):aj P f (.lp b 0::rest) res K KP:=by
 have hkb:known res b:=by unfold known;rw[hb];simp
 have hks:known res s:=by unfold known;rw[hs];simp
 have hlb:=aF hkb;have hls:=aF hks;have hne:b≠s:=fun e=>by rw[e,hs]at hb;simp at hb
 refine aj.frame (pl:= [(b,true),(s,true)]) (args0:= .lp 0 0::rest) (K0:=fun v r=>vK x v r/\an r 0= .blk tm (oO 1 n')/\an r 1= .store t e M) (KP0:=fun _ _=>False)
  (by simp[eE,cx.2 hkb,cx.2 hks]) (by simp[iT,dr,pw,hlb,hls,hne,Ne.symm hne]) ?_ ?_ (fun v r hv=>?_) (fun _ _ h=>h.elim)
 ·simp only[dU,e9,ky,idxOf,dr];rw[lG rest hid];simp
 ·have:eF (ky 0 (dr [(b,true),(s,true)])) res [(b,true),(s,true)]= [.blk tm (oO 1 n),.store t e L]:=by simp[eF,hb,hs,fZ,oO,e9,dU,ky,idxOf,dr,hne,Ne.symm hne]
  rw[this];exact h
 ·obtain⟨h1,h2,h3⟩:=hv;have hm:merge [(b,true),(s,true)] [] r res=br (br res b (.blk tm (oO s n'))) s (.store t e M):=by simp[merge,fj,h2,h3,fZ,gq,oO,e9,dU,back,wz]
  exact⟨[],x,rfl,by simp[lP,h2,h3,iR],rfl,j8.j4 h1 hx,by rw[hm];exact hK⟩
theorem aj.Vk {P:Program} {f:Nat} {args:List V} {res:List aB} {K KP:V->List aB->Prop} {b s tm:Nat} {y:V} {n:Int} (hb:an res b= .blk tm (.ag [.lp s 0,y])) (hy:rI .i64 y=some n)
  (h:aj P f args (br res b (.blk tm (oO s n))) K KP):aj P f args res K KP:=by
 have hkb:known res b:=by unfold known;rw[hb];simp
 have hlb:=aF hkb
 have hkn:∀i,known (br res b (.blk tm (oO s n))) i↔known res i:=fun i=>by
  unfold known;rw[bm _ _ _ _ hlb];by_cases e:i=b
  ·subst e;rw[VN rfl,hb];simp
  ·rw[VM e]
 have hK:known (br res b (.blk tm (oO s n)))=known res:=by funext i;exact propext (hkn i)
 obtain⟨r1,r2⟩:=gR .i64 y n hy;refine h.tr fun J fps w0 F0 w hH=>⟨J,fps,hH.weaken (fun i hi=>⟨(hkn i).1 hi,fun fp hh=>?_⟩),Env.bc.refl _ _,fun i hi=>(hkn i).2 hi⟩
 rw[hK,bm _ _ _ _ hlb];by_cases e:i=b
 ·subst e;rw[VN rfl];rw[hb]at hh;obtain⟨h1,h2,h3,h4⟩:=hh;have hd:=r1 J;refine⟨?_,rfl,h3,?_⟩
  ·exact⟨⟨h1.1.1,fb (r2 _ h1.1.2.1),trivial⟩,trivial,trivial,trivial⟩
  ·rw[h4];simp only[cells,oO,den,aW,Value.cells,hd]
 ·rw[VM e];exact hh
def Ji:Ct:=Cj (bG Ur (bG iA kD)) (fun x=>some (aw x.1.2.2.2.2.2.1/\gF x.2.1)) fun x=> .bo (dO (Ga x.1) x.2.1)
def P0:Ct:=Cj (bG oA Fa) (fun x=>some (gu (Ga x.2.1).s0=true/\gu (Ga x.2.1).s1=true/\gu (Ga x.2.1).s2=true)) fun x=>qQ (bp x.1 (Ga x.2.1))
def TI (Q:List Obj->Int->k7->Prop) (F:List Obj->Int->k7->V) (N:Int->k7->Int) (M:List Obj->Int->k7->List Obj):np:=fun args res K=>
 match args with
 |a::l=>match GK Fa l with
  |some x=>match a with
   | .lp b off=>if off==0 then match an res b with
     | .blk t c=>match H9 c with
       |some (s,n)=>match an res s with
        | .store ts e L=>if t==vY&&ts==tS&&e==eS then Q L n (Ga x.1)/\K (F L n (Ga x.1)) (br (br res b (.blk vY (oO s (N n (Ga x.1))))) s (.store tS eS (M L n (Ga x.1))))else False
        |_=>False
       |none=>False
     |_=>False
     else False
   |_=>False
  |none=>False
 |_=>False
def TO (L:List Obj) (n:Int) (p:k7):Prop:=ar L/\aw p.data/\gF n
def QT:np:=TI TO (fun L n p=> .tp [TD (aK L n p),.it .i64 (eT n p)]) gA eu
def QF:np:=TI (fun L n p=>TO L n p/\dO p n=true/\p.kind=1) (fun L n p=>TD (aK L n p)) (fun n _=>n) eu
def U0 (c:V):Option Int:=
 match c with
 | .ag q=>match q with
   | [p,y]=>match p with
     | .lp s off=>match y with
       | .it k n=>match k with
         | .i64=>if s==1&&off==0 then some n else none
         |_=>none
       |_=>none
     |_=>none
   |_=>none
 |_=>none
theorem IM {c:V} {n:Int} (h:U0 c=some n):c=oO 1 n:=by
 unfold U0 at h;split at h
 case h_2=>simp at h
 split at h
 case h_2=>simp at h
 split at h
 case h_2=>simp at h
 split at h
 case h_2=>simp at h
 split at h
 case h_2=>simp at h
 split at h
 case isFalse=>simp at h
 rename_i hc;simp only[VG,VI]at hc;obtain⟨rfl,rfl⟩:=hc;simp only[VE]at h;subst h;rfl
def T2 (r:aB) (m:Int):Prop:=
 match r with
 | .blk t c=>match U0 c with
   |some n=>if t==vY then n=m else False
   |none=>False
 |_=>False
theorem DO {r:aB} {m:Int} (h:T2 r m):r= .blk vY (oO 1 m):=by
 unfold T2 at h;split at h
 case h_2=>exact h.elim
 split at h
 case h_2=>exact h.elim
 rename_i n hn;split at h
 case isFalse=>exact h.elim
 rename_i ht;have ht:=VI.1 ht;subst ht;subst h;rw[IM hn]
def Un (x:V) (n:Int) (M:List Obj) (v:V) (r:List aB):Prop:=
 match an r 1 with
 | .store t e L=>if t==tS&&e==eS then T2 (an r 0) n/\nI x v r/\L=M else False
 |_=>False
theorem NY {x:V} {n:Int} {M:List Obj} {v:V} {r:List aB} (h:Un x n M v r):vK x v r/\an r 0= .blk vY (oO 1 n)/\an r 1= .store tS eS M:=by
 unfold Un at h;split at h
 ·rename_i hr;split at h
  ·rename_i hc;simp only[VG,VI]at hc;obtain⟨rfl,rfl⟩:=hc;obtain⟨h1,h2,rfl⟩:=h;exact⟨cM h2,DO h1,hr⟩
  ·exact h.elim
 ·exact h.elim
theorem HI {P:Program} {f:Nat} {Q:List Obj->Int->k7->Prop} {F:List Obj->Int->k7->V} {N:Int->k7->Int} {M:List Obj->Int->k7->List Obj} (hF:∀L n p,j4 (F L n p)=true)
  (h:∀L n p,Q L n p->aj P f [.lp 0 0,Lu p] [.blk vY (oO 1 n),.store tS eS L] (Un (F L n p) (N n p) (M L n p)) (fun _ _=>False)):oP P f (TI Q F N M):=by
 intro args res K KP hh;unfold TI at hh;split at hh
 case h_2=>exact hh.elim
 split at hh
 case h_2=>exact hh.elim
 rename_i x hx;split at hh
 case h_2=>exact hh.elim
 rename_i b off;split at hh
 case isFalse=>exact hh.elim
 rename_i ho;have ho:=VI.1 ho;subst ho;split at hh
 case h_2=>exact hh.elim
 rename_i t c hb;split at hh
 case h_2=>exact hh.elim
 rename_i s n hc;split at hh
 case h_2=>exact hh.elim
 rename_i ts e L hs;split at hh
 case isFalse=>exact hh.elim
 rename_i ht;simp only[VG,VI]at ht;obtain⟨⟨rfl,rfl⟩,rfl⟩:=ht;obtain⟨hq,hK⟩:=hh;obtain⟨y,rfl,hy⟩:=yr hc;have hkb:known res b:=by unfold known;rw[hb];simp
 have hlb:=aF hkb;refine aj.args (er.kL (oi JL (fun _=>rfl) _ _ hx)) ?_
 refine aj.Vk hb hy ?_;have hne:b≠s:=fun e=>by rw[e,hs]at hb;simp at hb
 refine aj.Qb (rest:=Fa.cn x 0) (by rw[bm _ _ _ _ hlb,VN rfl]) (by rw[bm _ _ _ _ hlb,VM (Ne.symm hne)];exact hs) rfl (hF _ _ _) ((h L n (Ga x.1) hq).mono (fun _ _ hv=>NY hv) fun _ _ h=>h) ?_
 have:∀(l:List aB) (i:Nat) (a b:aB),br (br l i a) i b=br l i b:=fun l i a b=>by rw[jl,jl,jl,List.set_set]
 rw[this];exact hK
end Go.Sx
