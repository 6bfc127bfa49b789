import Derived.Test.YtlblcfaclmpekaaGreatSpR
set_option linter.unusedSimpArgs false
set_option linter.unusedVariables false
set_option maxRecDepth 100000
namespace Go.Sx
structure ke where
 kind:Int
 proc:Int
 reg:Int
 mode:Int
 code:Int
 data:ByteArray
 s0:Int
 s1:Int
 s2:Int
 num:Bool
 val:Int
def Su (o:ke):V:= .ag [.it .i64 o.kind,.it .i64 o.proc,.it .i64 o.reg,.it .i64 o.mode,.it .i64 o.code,.st o.data,.ag [.it .i64 o.s0,.it .i64 o.s1,.it .i64 o.s2],.bo o.num,.it .i64 o.val]
structure Dn where
 out:Int
 proc:Int
 err:Int
 ans:bh
 wants:Bool
def W3 (d:Dn):V:= .ag [.it .i64 d.out,.it .i64 d.proc,.it .i64 d.err,rk d.ans,.bo d.wants]
def WZ:Dn:=⟨0,0,0,dS,false⟩
def xb (n:Int):Bool:=decide (0<=n)&&decide (n<12)
def gr (n:Int):Bool:=decide (n= -1)||xb n
def eu (o:ke) (now:Int):Bool:=
 if o.kind=2 then decide (0<=o.val)&&decide (o.val<=1099511627776)&&decide (now<=4611686018427387904-o.val)
 else decide (o.kind=1)&&decide (1<=o.mode)&&decide (o.mode<=3)&&decide (cE o.data<=32)&&xb o.reg&&gr o.s0&&gr o.s1&&gr o.s2
def EO (o:Obj) (n:Int):Key:=if n<0 then void else o.slots.at (4+n).toNat
def bn (o:Obj) (p:ke):bh:=⟨p.code,p.data,EO o p.s0,EO o p.s1,if p.num=true then c8 p.val else EO o p.s2⟩
def eJ (L:List Obj):List Int:=eH L (bH (ak L))
def du (L:List Obj) (p:ke):Int:=ai (eJ L) ((p.proc.tmod (ak (eJ L):Int)+(ak (eJ L):Int)).tmod (ak (eJ L):Int)).toNat 0
def b9 (L:List Obj) (p:ke):Key:=ae L ((au L (du L p)).slots.at (4+p.reg).toNat)
def cz (L:List Obj) (p:ke):bh:=bn (au L (du L p)) p
def sk (L:List Obj) (p:ke):Bool:=decide ((b9 L p).kind=6)||decide ((b9 L p).kind=7)
def gT (L:List Obj) (n:Int) (p:ke):List Obj:=lb L n (b9 L p) (cz L p)
def Bc (L:List Obj) (n:Int) (p:ke):List Obj:=
 if di (gT L n p) (du L p)=true/\gF (gT L n p) (du L p)=1 then
  if p.mode=1 then jF (gT L n p) (du L p) (bu L n (b9 L p) (cz L p))else if p.mode=3 then gZ (gT L n p) (du L p) 0 else gT L n p
 else gT L n p
def er (L:List Obj) (n:Int) (p:ke):List Obj:=
 if eu p n=true/\¬p.kind=2/\¬ak (eJ L)=0 then
  if sk L p=true then eN L (du L p) (b9 L p) p.mode (cz L p)else Bc L n p
 else L
def me (n:Int) (p:ke):Int:=if eu p n=true/\p.kind=2 then n+p.val else n
def mz (n:Int) (p:ke):Int:=if eu p n=true then 0 else 2
def aJ (L:List Obj) (n:Int) (p:ke):Dn:=
 if eu p n=true then
  if p.kind=2 then⟨5,0,0,dS,false⟩
  else if ak (eJ L)=0 then⟨1,0,0,dS,false⟩
  else if sk L p=true then
   if b8 L (du L p) (b9 L p) p.mode (cz L p)=0 then⟨2,du L p,0,dS,false⟩else⟨3,du L p,b8 L (du L p) (b9 L p) p.mode (cz L p),dS,false⟩
  else⟨4,du L p,0,bu L n (b9 L p) (cz L p),ij L n (b9 L p) (cz L p)⟩
 else WZ
def gH (n:Int):Prop:=0<=n/\n<=4611686018427387904
end Go.Sx
set_option maxRecDepth 100000
namespace Go.Sx
abbrev QD:Nat:=85
def yJ (s:Nat) (n:Int):V:= .ag [.lp s 0,.it .i64 n]
def R5 (c:V):Option (Nat×Int):=
 match c with
 | .ag m=>match m with
   | [p,y]=>match p with
     | .lp s off=>match rI .i64 y with
       |some n=>if off==0 then some (s,n)else none
       |none=>none
     |_=>none
   |_=>none
 |_=>none
def WK:Arg (Int×Int×Int×Unit):=Tg (bE iA (bE iA (bE iA kz)))
theorem R6:lg WK:=Dg (aM fP (aM fP (aM fP dM)))
abbrev Wn:Type:=Int×Int×Int×Int×Int×ByteArray×(Int×Int×Int×Unit)×Bool×Int×Unit
def Ws:Arg Wn:=Tg (bE iA (bE iA (bE iA (bE iA (bE iA (bE zA (bE WK (bE bA (bE iA kz)))))))))
theorem I7:lg Ws:=Dg (aM fP (aM fP (aM fP (aM fP (aM fP (aM Tw (aM R6 (aM QB (aM fP dM)))))))))
def Hw (x:Wn):ke:=⟨x.1,x.2.1,x.2.2.1,x.2.2.2.1,x.2.2.2.2.1,x.2.2.2.2.2.1,x.2.2.2.2.2.2.1.1,x.2.2.2.2.2.2.1.2.1,x.2.2.2.2.2.2.1.2.2.1,x.2.2.2.2.2.2.2.1,x.2.2.2.2.2.2.2.2.1⟩
def Hz:mh (Wn×Unit):=bE Ws kz
theorem Lq:iO Hz:=aM I7 dM
theorem Hm {c:V} {s:Nat} {n:Int} (h:R5 c=some (s,n)):∃y,c= .ag [.lp s 0,y]/\rI .i64 y=some n:=by
 unfold R5 at h;repeat' (first| (split at h<;>try(simp at h;done))|skip)
 rename_i y n' hn ho;simp only[Xm,Xn]at h;obtain⟨rfl,rfl⟩:=h;have:=Xq.1 ho;subst this;exact⟨_,rfl,hn⟩
theorem aj.SD {P:Program} {f:Nat} {rest:List V} {res:List aA} {K KP:V->List aA->Prop} {b s tm t e:Nat} {L M:List Obj} {n n':Int} {x:V}
  (hb:ar res b= .blk tm (yJ s n)) (hs:ar res s= .store t e L) (hid:kY rest=true) (hx:jJ x=true)
  (h:aj P f (.lp 0 0::rest) [.blk tm (yJ 1 n),.store t e L] (fun v r=>vi x v r/\ar r 0= .blk tm (yJ 1 n')/\ar r 1= .store t e M) (fun _ _=>False))
  (hK:K x (bD (bD res b (.blk tm (yJ s n'))) s (.store t e M))):aj P f (.lp b 0::rest) res K KP:=by
 have hkb:known res b:=by unfold known;rw[hb];simp
 have hks:known res s:=by unfold known;rw[hs];simp
 have hlb:=aF hkb;have hls:=aF hks;have hne:b≠s:=fun e=>by rw[e,hs]at hb;simp at hb
 refine aj.frame (pl:= [(b,true),(s,true)]) (args0:= .lp 0 0::rest) (K0:=fun v r=>vi x v r/\ar r 0= .blk tm (yJ 1 n')/\ar r 1= .store t e M) (KP0:=fun _ _=>False)
  (by simp[en,cH.2 hkb,cH.2 hks]) (by simp[iE,de,oS,hlb,hls,hne,Ne.symm hne]) ?_ ?_ (fun v r hv=>?_) (fun _ _ h=>h.elim)
 ·simp only[ee,fh,ko,idxOf,de];rw[jE rest hid];simp
 ·have:eo (ko 0 (de [(b,true),(s,true)])) res [(b,true),(s,true)]= [.blk tm (yJ 1 n),.store t e L]:=by simp[eo,hb,hs,fZ,yJ,fh,ee,ko,idxOf,de,hne,Ne.symm hne]
  rw[this];exact h
 ·obtain⟨h1,h2,h3⟩:=hv;have hm:merge [(b,true),(s,true)] [] r res=bD (bD res b (.blk tm (yJ s n'))) s (.store t e M):=by simp[merge,eW,h2,h3,fZ,fW,yJ,fh,ee,back,xr]
  exact⟨[],x,rfl,by simp[kT,h2,h3,jd],rfl,jA.jJ h1 hx,by rw[hm];exact hK⟩
theorem aj.W8 {P:Program} {f:Nat} {args:List V} {res:List aA} {K KP:V->List aA->Prop} {b s tm:Nat} {y:V} {n:Int} (hb:ar res b= .blk tm (.ag [.lp s 0,y])) (hy:rI .i64 y=some n)
  (h:aj P f args (bD res b (.blk tm (yJ s n))) K KP):aj P f args res K KP:=by
 have hkb:known res b:=by unfold known;rw[hb];simp
 have hlb:=aF hkb
 have hkn:∀i,known (bD res b (.blk tm (yJ s n))) i↔known res i:=fun i=>by
  unfold known;rw[bw _ _ _ _ hlb];by_cases e:i=b
  ·subst e;rw[Xv rfl,hb];simp
  ·rw[Xu e]
 have hK:known (bD res b (.blk tm (yJ s n)))=known res:=by funext i;exact propext (hkn i)
 obtain⟨r1,r2⟩:=gi .i64 y n hy;refine h.tL fun J fps w0 F0 w hH=>⟨J,fps,hH.weaken (fun i hi=>⟨(hkn i).1 hi,fun fp hh=>?_⟩),Env.aZ.refl _ _,fun i hi=>(hkn i).2 hi⟩
 rw[hK,bw _ _ _ _ hlb];by_cases e:i=b
 ·subst e;rw[Xv rfl];rw[hb]at hh;obtain⟨h1,h2,h3,h4⟩:=hh;have hd:=r1 J;refine⟨?_,rfl,h3,?_⟩
  ·exact⟨⟨h1.1.1,ff (r2 _ h1.1.2.1),trivial⟩,trivial,trivial,trivial⟩
  ·rw[h4];simp only[cells,yJ,den,aU,Value.cells,hd]
 ·rw[Xu e];exact hh
def KB:Ct:=CP (bE Ws (bE iA kz)) (fun x=>some (aw x.1.2.2.2.2.2.1/\gH x.2.1)) fun x=> .bo (eu (Hw x.1) x.2.1)
def SM:Ct:=CP (bE oA Hz) (fun x=>some (gr (Hw x.2.1).s0=true/\gr (Hw x.2.1).s1=true/\gr (Hw x.2.1).s2=true)) fun x=>rk (bn x.1 (Hw x.2.1))
def Vc (Q:List Obj->Int->ke->Prop) (F:List Obj->Int->ke->V) (N:Int->ke->Int) (M:List Obj->Int->ke->List Obj):ng:=fun args res K=>
 match args with
 |a::l=>match HN Hz l with
  |some x=>match a with
   | .lp b off=>if off==0 then match ar res b with
     | .blk t c=>match R5 c with
       |some (s,n)=>match ar res s with
        | .store ts e L=>if t==QD&&ts==tS&&e==eS then Q L n (Hw x.1)/\K (F L n (Hw x.1)) (bD (bD res b (.blk QD (yJ s (N n (Hw x.1))))) s (.store tS eS (M L n (Hw x.1))))else False
        |_=>False
       |none=>False
     |_=>False
     else False
   |_=>False
  |none=>False
 |_=>False
def U9 (L:List Obj) (n:Int) (p:ke):Prop:=aq L/\aw p.data/\gH n
def Rl:ng:=Vc U9 (fun L n p=> .tp [W3 (aJ L n p),.it .i64 (mz n p)]) me er
def Sb:ng:=Vc (fun L n p=>U9 L n p/\eu p n=true/\p.kind=1) (fun L n p=>W3 (aJ L n p)) (fun n _=>n) er
def Wx (c:V):Option Int:=
 match c with
 | .ag q=>match q with
   | [p,y]=>match p with
     | .lp s off=>match y with
       | .it k n=>match k with
         | .i64=>if s==1&&off==0 then some n else none
         |_=>none
       |_=>none
     |_=>none
   |_=>none
 |_=>none
theorem LH {c:V} {n:Int} (h:Wx c=some n):c=yJ 1 n:=by
 unfold Wx at h;split at h
 case h_2=>simp at h
 split at h
 case h_2=>simp at h
 split at h
 case h_2=>simp at h
 split at h
 case h_2=>simp at h
 split at h
 case h_2=>simp at h
 split at h
 case isFalse=>simp at h
 rename_i hc;simp only[Xo,Xq]at hc;obtain⟨rfl,rfl⟩:=hc;simp only[Xm]at h;subst h;rfl
def Wm (r:aA) (m:Int):Prop:=
 match r with
 | .blk t c=>match Wx c with
   |some n=>if t==QD then n=m else False
   |none=>False
 |_=>False
theorem Pe {r:aA} {m:Int} (h:Wm r m):r= .blk QD (yJ 1 m):=by
 unfold Wm at h;split at h
 case h_2=>exact h.elim
 split at h
 case h_2=>exact h.elim
 rename_i n hn;split at h
 case isFalse=>exact h.elim
 rename_i ht;have ht:=Xq.1 ht;subst ht;subst h;rw[LH hn]
def V5 (x:V) (n:Int) (M:List Obj) (v:V) (r:List aA):Prop:=
 match ar r 1 with
 | .store t e L=>if t==tS&&e==eS then Wm (ar r 0) n/\oR x v r/\L=M else False
 |_=>False
theorem Ny {x:V} {n:Int} {M:List Obj} {v:V} {r:List aA} (h:V5 x n M v r):vi x v r/\ar r 0= .blk QD (yJ 1 n)/\ar r 1= .store tS eS M:=by
 unfold V5 at h;split at h
 ·rename_i hr;split at h
  ·rename_i hc;simp only[Xo,Xq]at hc;obtain⟨rfl,rfl⟩:=hc;obtain⟨h1,h2,rfl⟩:=h;exact⟨cK h2,Pe h1,hr⟩
  ·exact h.elim
 ·exact h.elim
theorem KW {P:Program} {f:Nat} {Q:List Obj->Int->ke->Prop} {F:List Obj->Int->ke->V} {N:Int->ke->Int} {M:List Obj->Int->ke->List Obj} (hF:∀L n p,jJ (F L n p)=true)
  (h:∀L n p,Q L n p->aj P f [.lp 0 0,Su p] [.blk QD (yJ 1 n),.store tS eS L] (V5 (F L n p) (N n p) (M L n p)) (fun _ _=>False)):oU P f (Vc Q F N M):=by
 intro args res K KP hh;unfold Vc at hh;split at hh
 case h_2=>exact hh.elim
 split at hh
 case h_2=>exact hh.elim
 rename_i x hx;split at hh
 case h_2=>exact hh.elim
 rename_i b off;split at hh
 case isFalse=>exact hh.elim
 rename_i ho;have ho:=Xq.1 ho;subst ho;split at hh
 case h_2=>exact hh.elim
 rename_i t c hb;split at hh
 case h_2=>exact hh.elim
 rename_i s n hc;split at hh
 case h_2=>exact hh.elim
 rename_i ts e L hs;split at hh
 case isFalse=>exact hh.elim
 rename_i ht;simp only[Xo,Xq]at ht;obtain⟨⟨rfl,rfl⟩,rfl⟩:=ht;obtain⟨hq,hK⟩:=hh;obtain⟨y,rfl,hy⟩:=Hm hc;have hkb:known res b:=by unfold known;rw[hb];simp
 have hlb:=aF hkb;refine aj.args (ev.kb (nM Lq (fun _=>rfl) _ _ hx)) ?_
 refine aj.W8 hb hy ?_;have hne:b≠s:=fun e=>by rw[e,hs]at hb;simp at hb
 refine aj.SD (rest:=Hz.cn x 0) (by rw[bw _ _ _ _ hlb,Xv rfl]) (by rw[bw _ _ _ _ hlb,Xu (Ne.symm hne)];exact hs) rfl (hF _ _ _) ((h L n (Hw x.1) hq).mono (fun _ _ hv=>Ny hv) fun _ _ h=>h) ?_
 have:∀(l:List aA) (i:Nat) (a b:aA),bD (bD l i a) i b=bD l i b:=fun l i a b=>by rw[lq,lq,lq,List.set_set]
 rw[this];exact hK
end Go.Sx
