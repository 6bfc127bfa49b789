import Derived.Test.YtlblcfaclmpekaaGreatSpR
set_option linter.unusedSimpArgs false
set_option linter.unusedVariables false
set_option maxRecDepth 100000
namespace Go.Sx
structure kh where
 kind:Int
 proc:Int
 reg:Int
 mode:Int
 code:Int
 data:ByteArray
 s0:Int
 s1:Int
 s2:Int
 num:Bool
 val:Int
def KY (o:kh):V:= .ag [.it .i64 o.kind,.it .i64 o.proc,.it .i64 o.reg,.it .i64 o.mode,.it .i64 o.code,.st o.data,.ag [.it .i64 o.s0,.it .i64 o.s1,.it .i64 o.s2],.bo o.num,.it .i64 o.val]
structure Dn where
 out:Int
 proc:Int
 err:Int
 ans:bd
 wants:Bool
def Ug (d:Dn):V:= .ag [.it .i64 d.out,.it .i64 d.proc,.it .i64 d.err,qv d.ans,.bo d.wants]
def Up:Dn:=⟨0,0,0,dV,false⟩
def vD (n:Int):Bool:=decide (0<=n)&&decide (n<12)
def fV (n:Int):Bool:=decide (n= -1)||vD n
def dU (o:kh) (now:Int):Bool:=
 if o.kind=2 then decide (0<=o.val)&&decide (o.val<=1099511627776)&&decide (now<=4611686018427387904-o.val)
 else decide (o.kind=1)&&decide (1<=o.mode)&&decide (o.mode<=3)&&decide (ca o.data<=32)&&vD o.reg&&fV o.s0&&fV o.s1&&fV o.s2
def Dy (o:Obj) (n:Int):Key:=if n<0 then void else o.slots.at (4+n).toNat
def bh (o:Obj) (p:kh):bd:=⟨p.code,p.data,Dy o p.s0,Dy o p.s1,if p.num=true then cP p.val else Dy o p.s2⟩
def ev (L:List Obj):List Int:=eu L (dJ (ar L))
def dM (L:List Obj) (p:kh):Int:=ai (ev L) ((p.proc.tmod (ar (ev L):Int)+(ar (ev L):Int)).tmod (ar (ev L):Int)).toNat 0
def cq (L:List Obj) (p:kh):Key:=ae L ((az L (dM L p)).slots.at (4+p.reg).toNat)
def cE (L:List Obj) (p:kh):bd:=bh (az L (dM L p)) p
def wg (L:List Obj) (p:kh):Bool:=decide ((cq L p).kind=6)||decide ((cq L p).kind=7)
def gQ (L:List Obj) (n:Int) (p:kh):List Obj:=lY L n (cq L p) (cE L p)
def Dx (L:List Obj) (n:Int) (p:kh):List Obj:=
 if cR (gQ L n p) (dM L p)=true/\gn (gQ L n p) (dM L p)=1 then
  if p.mode=1 then jO (gQ L n p) (dM L p) (bw L n (cq L p) (cE L p))else if p.mode=3 then hU (gQ L n p) (dM L p) 0 else gQ L n p
 else gQ L n p
def eI (L:List Obj) (n:Int) (p:kh):List Obj:=
 if dU p n=true/\¬p.kind=2/\¬ar (ev L)=0 then
  if wg L p=true then fh L (dM L p) (cq L p) p.mode (cE L p)else Dx L n p
 else L
def fg (n:Int) (p:kh):Int:=if dU p n=true/\p.kind=2 then n+p.val else n
def lF (n:Int) (p:kh):Int:=if dU p n=true then 0 else 2
def aI (L:List Obj) (n:Int) (p:kh):Dn:=
 if dU p n=true then
  if p.kind=2 then⟨5,0,0,dV,false⟩
  else if ar (ev L)=0 then⟨1,0,0,dV,false⟩
  else if wg L p=true then
   if cm L (dM L p) (cq L p) p.mode (cE L p)=0 then⟨2,dM L p,0,dV,false⟩else⟨3,dM L p,cm L (dM L p) (cq L p) p.mode (cE L p),dV,false⟩
  else⟨4,dM L p,0,bw L n (cq L p) (cE L p),iu L n (cq L p) (cE L p)⟩
 else Up
def jf (n:Int):Prop:=0<=n/\n<=4611686018427387904
end Go.Sx
set_option maxRecDepth 100000
namespace Go.Sx
abbrev ON:Nat:=85
def zw (s:Nat) (n:Int):V:= .ag [.lp s 0,.it .i64 n]
def PH (c:V):Option (Nat×Int):=
 match c with
 | .ag m=>match m with
   | [p,y]=>match p with
     | .lp s off=>match rI .i64 y with
       |some n=>if off==0 then some (s,n)else none
       |none=>none
     |_=>none
   |_=>none
 |_=>none
def Ui:Arg (Int×Int×Int×Unit):=Rd (bD iA (bD iA (bD iA kc)))
theorem PA:lB Ui:=De (aK fE (aK fE (aK fE dP)))
abbrev Tz:Type:=Int×Int×Int×Int×Int×ByteArray×(Int×Int×Int×Unit)×Bool×Int×Unit
def Ts:Arg Tz:=Rd (bD iA (bD iA (bD iA (bD iA (bD iA (bD zA (bD Ui (bD bA (bD iA kc)))))))))
theorem GB:lB Ts:=De (aK fE (aK fE (aK fE (aK fE (aK fE (aK SL (aK PA (aK Oi (aK fE dP)))))))))
def Gf (x:Tz):kh:=⟨x.1,x.2.1,x.2.2.1,x.2.2.2.1,x.2.2.2.2.1,x.2.2.2.2.2.1,x.2.2.2.2.2.2.1.1,x.2.2.2.2.2.2.1.2.1,x.2.2.2.2.2.2.1.2.2.1,x.2.2.2.2.2.2.2.1,x.2.2.2.2.2.2.2.2.1⟩
def Gg:lQ (Tz×Unit):=bD Ts kc
theorem Jo:ia Gg:=aK GB dP
theorem Fv {c:V} {s:Nat} {n:Int} (h:PH c=some (s,n)):∃y,c= .ag [.lp s 0,y]/\rI .i64 y=some n:=by
 unfold PH at h;repeat' (first| (split at h<;>try(simp at h;done))|skip)
 rename_i y n' hn ho;simp only[UQ,UR]at h;obtain⟨rfl,rfl⟩:=h;have:=UU.1 ho;subst this;exact⟨_,rfl,hn⟩
theorem aj.PN {P:Program} {f:Nat} {rest:List V} {res:List aA} {K KP:V->List aA->Prop} {b s tm t e:Nat} {L M:List Obj} {n n':Int} {x:V}
  (hb:ak res b= .blk tm (zw s n)) (hs:ak res s= .store t e L) (hid:lf rest=true) (hx:jM x=true)
  (h:aj P f (.lp 0 0::rest) [.blk tm (zw 1 n),.store t e L] (fun v r=>vh x v r/\ak r 0= .blk tm (zw 1 n')/\ak r 1= .store t e M) (fun _ _=>False))
  (hK:K x (bC (bC res b (.blk tm (zw s n'))) s (.store t e M))):aj P f (.lp b 0::rest) res K KP:=by
 have hkb:known res b:=by unfold known;rw[hb];simp
 have hks:known res s:=by unfold known;rw[hs];simp
 have hlb:=aG hkb;have hls:=aG hks;have hne:b≠s:=fun e=>by rw[e,hs]at hb;simp at hb
 refine aj.frame (pl:= [(b,true),(s,true)]) (args0:= .lp 0 0::rest) (K0:=fun v r=>vh x v r/\ak r 0= .blk tm (zw 1 n')/\ak r 1= .store t e M) (KP0:=fun _ _=>False)
  (by simp[eA,cW.2 hkb,cW.2 hks]) (by simp[jm,dt,qE,hlb,hls,hne,Ne.symm hne]) ?_ ?_ (fun v r hv=>?_) (fun _ _ h=>h.elim)
 ·simp only[ef,ff,km,idxOf,dt];rw[k7 rest hid];simp
 ·have:eC (km 0 (dt [(b,true),(s,true)])) res [(b,true),(s,true)]= [.blk tm (zw 1 n),.store t e L]:=by simp[eC,hb,hs,gj,zw,ff,ef,km,idxOf,dt,hne,Ne.symm hne]
  rw[this];exact h
 ·obtain⟨h1,h2,h3⟩:=hv;have hm:merge [(b,true),(s,true)] [] r res=bC (bC res b (.blk tm (zw s n'))) s (.store t e M):=by simp[merge,fo,h2,h3,gj,gx,zw,ff,ef,back,wY]
  exact⟨[],x,rfl,by simp[mL,h2,h3,iT],rfl,ke.jM h1 hx,by rw[hm];exact hK⟩
theorem aj.UG {P:Program} {f:Nat} {args:List V} {res:List aA} {K KP:V->List aA->Prop} {b s tm:Nat} {y:V} {n:Int} (hb:ak res b= .blk tm (.ag [.lp s 0,y])) (hy:rI .i64 y=some n)
  (h:aj P f args (bC res b (.blk tm (zw s n))) K KP):aj P f args res K KP:=by
 have hkb:known res b:=by unfold known;rw[hb];simp
 have hlb:=aG hkb
 have hkn:∀i,known (bC res b (.blk tm (zw s n))) i↔known res i:=fun i=>by
  unfold known;rw[bp _ _ _ _ hlb];by_cases e:i=b
  ·subst e;rw[U0 rfl,hb];simp
  ·rw[UZ e]
 have hK:known (bC res b (.blk tm (zw s n)))=known res:=by funext i;exact propext (hkn i)
 obtain⟨r1,r2⟩:=gF .i64 y n hy;refine h.uu fun J fps w0 F0 w hH=>⟨J,fps,hH.weaken (fun i hi=>⟨(hkn i).1 hi,fun fp hh=>?_⟩),Env.aZ.refl _ _,fun i hi=>(hkn i).2 hi⟩
 rw[hK,bp _ _ _ _ hlb];by_cases e:i=b
 ·subst e;rw[U0 rfl];rw[hb]at hh;obtain⟨h1,h2,h3,h4⟩:=hh;have hd:=r1 J;refine⟨?_,rfl,h3,?_⟩
  ·exact⟨⟨h1.1.1,ey (r2 _ h1.1.2.1),trivial⟩,trivial,trivial,trivial⟩
  ·rw[h4];simp only[cells,zw,den,aT,Value.cells,hd]
 ·rw[UZ e];exact hh
def HH:Ct:=BW (bD Ts (bD iA kc)) (fun x=>some (au x.1.2.2.2.2.2.1/\jf x.2.1)) fun x=> .bo (dU (Gf x.1) x.2.1)
def QH:Ct:=BW (bD oA Gg) (fun x=>some (fV (Gf x.2.1).s0=true/\fV (Gf x.2.1).s1=true/\fV (Gf x.2.1).s2=true)) fun x=>qv (bh x.1 (Gf x.2.1))
def SV (Q:List Obj->Int->kh->Prop) (F:List Obj->Int->kh->V) (N:Int->kh->Int) (M:List Obj->Int->kh->List Obj):nf:=fun args res K=>
 match args with
 |a::l=>match KC Gg l with
  |some x=>match a with
   | .lp b off=>if off==0 then match ak res b with
     | .blk t c=>match PH c with
       |some (s,n)=>match ak res s with
        | .store ts e L=>if t==ON&&ts==tS&&e==eS then Q L n (Gf x.1)/\K (F L n (Gf x.1)) (bC (bC res b (.blk ON (zw s (N n (Gf x.1))))) s (.store tS eS (M L n (Gf x.1))))else False
        |_=>False
       |none=>False
     |_=>False
     else False
   |_=>False
  |none=>False
 |_=>False
def SQ (L:List Obj) (n:Int) (p:kh):Prop:=an L/\au p.data/\jf n
def Qe:nf:=SV SQ (fun L n p=> .tp [Ug (aI L n p),.it .i64 (lF n p)]) fg eI
def Qh:nf:=SV (fun L n p=>SQ L n p/\dU p n=true/\p.kind=1) (fun L n p=>Ug (aI L n p)) (fun n _=>n) eI
def Tq (c:V):Option Int:=
 match c with
 | .ag q=>match q with
   | [p,y]=>match p with
     | .lp s off=>match y with
       | .it k n=>match k with
         | .i64=>if s==1&&off==0 then some n else none
         |_=>none
       |_=>none
     |_=>none
   |_=>none
 |_=>none
theorem JC {c:V} {n:Int} (h:Tq c=some n):c=zw 1 n:=by
 unfold Tq at h;split at h
 case h_2=>simp at h
 split at h
 case h_2=>simp at h
 split at h
 case h_2=>simp at h
 split at h
 case h_2=>simp at h
 split at h
 case h_2=>simp at h
 split at h
 case isFalse=>simp at h
 rename_i hc;simp only[US,UU]at hc;obtain⟨rfl,rfl⟩:=hc;simp only[UQ]at h;subst h;rfl
def TP (r:aA) (m:Int):Prop:=
 match r with
 | .blk t c=>match Tq c with
   |some n=>if t==ON then n=m else False
   |none=>False
 |_=>False
theorem Lo {r:aA} {m:Int} (h:TP r m):r= .blk ON (zw 1 m):=by
 unfold TP at h;split at h
 case h_2=>exact h.elim
 split at h
 case h_2=>exact h.elim
 rename_i n hn;split at h
 case isFalse=>exact h.elim
 rename_i ht;have ht:=UU.1 ht;subst ht;subst h;rw[JC hn]
def TN (x:V) (n:Int) (M:List Obj) (v:V) (r:List aA):Prop:=
 match ak r 1 with
 | .store t e L=>if t==tS&&e==eS then TP (ak r 0) n/\qU x v r/\L=M else False
 |_=>False
theorem NV {x:V} {n:Int} {M:List Obj} {v:V} {r:List aA} (h:TN x n M v r):vh x v r/\ak r 0= .blk ON (zw 1 n)/\ak r 1= .store tS eS M:=by
 unfold TN at h;split at h
 ·rename_i hr;split at h
  ·rename_i hc;simp only[US,UU]at hc;obtain⟨rfl,rfl⟩:=hc;obtain⟨h1,h2,rfl⟩:=h;exact⟨dE h2,Lo h1,hr⟩
  ·exact h.elim
 ·exact h.elim
theorem H8 {P:Program} {f:Nat} {Q:List Obj->Int->kh->Prop} {F:List Obj->Int->kh->V} {N:Int->kh->Int} {M:List Obj->Int->kh->List Obj} (hF:∀L n p,jM (F L n p)=true)
  (h:∀L n p,Q L n p->aj P f [.lp 0 0,KY p] [.blk ON (zw 1 n),.store tS eS L] (TN (F L n p) (N n p) (M L n p)) (fun _ _=>False)):p5 P f (SV Q F N M):=by
 intro args res K KP hh;unfold SV at hh;split at hh
 case h_2=>exact hh.elim
 split at hh
 case h_2=>exact hh.elim
 rename_i x hx;split at hh
 case h_2=>exact hh.elim
 rename_i b off;split at hh
 case isFalse=>exact hh.elim
 rename_i ho;have ho:=UU.1 ho;subst ho;split at hh
 case h_2=>exact hh.elim
 rename_i t c hb;split at hh
 case h_2=>exact hh.elim
 rename_i s n hc;split at hh
 case h_2=>exact hh.elim
 rename_i ts e L hs;split at hh
 case isFalse=>exact hh.elim
 rename_i ht;simp only[US,UU]at ht;obtain⟨⟨rfl,rfl⟩,rfl⟩:=ht;obtain⟨hq,hK⟩:=hh;obtain⟨y,rfl,hy⟩:=Fv hc;have hkb:known res b:=by unfold known;rw[hb];simp
 have hlb:=aG hkb;refine aj.args (ee.kN (nU Jo (fun _=>rfl) _ _ hx)) ?_
 refine aj.UG hb hy ?_;have hne:b≠s:=fun e=>by rw[e,hs]at hb;simp at hb
 refine aj.PN (rest:=Gg.cn x 0) (by rw[bp _ _ _ _ hlb,U0 rfl]) (by rw[bp _ _ _ _ hlb,UZ (Ne.symm hne)];exact hs) rfl (hF _ _ _) ((h L n (Gf x.1) hq).mono (fun _ _ hv=>NV hv) fun _ _ h=>h) ?_
 have:∀(l:List aA) (i:Nat) (a b:aA),bC (bC l i a) i b=bC l i b:=fun l i a b=>by rw[kR,kR,kR,List.set_set]
 rw[this];exact hK
end Go.Sx
