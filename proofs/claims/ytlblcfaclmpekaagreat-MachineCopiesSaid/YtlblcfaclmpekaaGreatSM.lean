import Derived.Test.YtlblcfaclmpekaaGreatSpR
set_option linter.unusedSimpArgs false
set_option linter.unusedVariables false
set_option maxRecDepth 100000
namespace Go.Sx
structure k9 where
 kind:Int
 proc:Int
 reg:Int
 mode:Int
 code:Int
 data:ByteArray
 s0:Int
 s1:Int
 s2:Int
 num:Bool
 val:Int
def Lz (o:k9):V:= .ag [.it .i64 o.kind,.it .i64 o.proc,.it .i64 o.reg,.it .i64 o.mode,.it .i64 o.code,.st o.data,.ag [.it .i64 o.s0,.it .i64 o.s1,.it .i64 o.s2],.bo o.num,.it .i64 o.val]
structure Dn where
 out:Int
 proc:Int
 err:Int
 ans:bk
 wants:Bool
def TJ (d:Dn):V:= .ag [.it .i64 d.out,.it .i64 d.proc,.it .i64 d.err,rp d.ans,.bo d.wants]
def Vd:Dn:=⟨0,0,0,ee,false⟩
def wj (n:Int):Bool:=decide (0<=n)&&decide (n<12)
def gh (n:Int):Bool:=decide (n= -1)||wj n
def ec (o:k9) (now:Int):Bool:=
 if o.kind=2 then decide (0<=o.val)&&decide (o.val<=1099511627776)&&decide (now<=4611686018427387904-o.val)
 else decide (o.kind=1)&&decide (1<=o.mode)&&decide (o.mode<=3)&&decide (cC o.data<=32)&&wj o.reg&&gh o.s0&&gh o.s1&&gh o.s2
def Ep (o:Obj) (n:Int):Key:=if n<0 then void else o.slots.at (4+n).toNat
def bp (o:Obj) (p:k9):bk:=⟨p.code,p.data,Ep o p.s0,Ep o p.s1,if p.num=true then c8 p.val else Ep o p.s2⟩
def eI (L:List Obj):List Int:=eG L (bU (an L))
def dT (L:List Obj) (p:k9):Int:=aq (eI L) ((p.proc.tmod (an (eI L):Int)+(an (eI L):Int)).tmod (an (eI L):Int)).toNat 0
def cD (L:List Obj) (p:k9):Key:=ah L ((aD L (dT L p)).slots.at (4+p.reg).toNat)
def cJ (L:List Obj) (p:k9):bk:=bp (aD L (dT L p)) p
def vP (L:List Obj) (p:k9):Bool:=decide ((cD L p).kind=6)||decide ((cD L p).kind=7)
def hJ (L:List Obj) (n:Int) (p:k9):List Obj:=mO L n (cD L p) (cJ L p)
def El (L:List Obj) (n:Int) (p:k9):List Obj:=
 if de (hJ L n p) (dT L p)=true/\gz (hJ L n p) (dT L p)=1 then
  if p.mode=1 then j6 (hJ L n p) (dT L p) (bG L n (cD L p) (cJ L p))else if p.mode=3 then ie (hJ L n p) (dT L p) 0 else hJ L n p
 else hJ L n p
def fk (L:List Obj) (n:Int) (p:k9):List Obj:=
 if ec p n=true/\¬p.kind=2/\¬an (eI L)=0 then
  if vP L p=true then fo L (dT L p) (cD L p) p.mode (cJ L p)else El L n p
 else L
def jv (n:Int) (p:k9):Int:=if ec p n=true/\p.kind=2 then n+p.val else n
def g9 (n:Int) (p:k9):Int:=if ec p n=true then 0 else 2
def aM (L:List Obj) (n:Int) (p:k9):Dn:=
 if ec p n=true then
  if p.kind=2 then⟨5,0,0,ee,false⟩
  else if an (eI L)=0 then⟨1,0,0,ee,false⟩
  else if vP L p=true then
   if cE L (dT L p) (cD L p) p.mode (cJ L p)=0 then⟨2,dT L p,0,ee,false⟩else⟨3,dT L p,cE L (dT L p) (cD L p) p.mode (cJ L p),ee,false⟩
  else⟨4,dT L p,0,bG L n (cD L p) (cJ L p),iE L n (cD L p) (cJ L p)⟩
 else Vd
def gF (n:Int):Prop:=0<=n/\n<=4611686018427387904
end Go.Sx
set_option maxRecDepth 100000
namespace Go.Sx
abbrev xm:Nat:=85
def pz (s:Nat) (n:Int):V:= .ag [.lp s 0,.it .i64 n]
def Kb (c:V):Option (Nat×Int):=
 match c with
 | .ag m=>match m with
   | [p,y]=>match p with
     | .lp s off=>match rI .i64 y with
       |some n=>if off==0 then some (s,n)else none
       |none=>none
     |_=>none
   |_=>none
 |_=>none
def Va:Arg (Int×Int×Int×Unit):=RS (bI iA (bI iA (bI iA kK)))
theorem Rx:lY Va:=C8 (aQ fP (aQ fP (aQ fP dU)))
abbrev UU:Type:=Int×Int×Int×Int×Int×ByteArray×(Int×Int×Int×Unit)×Bool×Int×Unit
def Uj:Arg UU:=RS (bI iA (bI iA (bI iA (bI iA (bI iA (bI zA (bI Va (bI bA (bI iA kK)))))))))
theorem JC:lY Uj:=C8 (aQ fP (aQ fP (aQ fP (aQ fP (aQ fP (aQ Tm (aQ Rx (aQ Pm (aQ fP dU)))))))))
def FQ (x:UU):k9:=⟨x.1,x.2.1,x.2.2.1,x.2.2.2.1,x.2.2.2.2.1,x.2.2.2.2.2.1,x.2.2.2.2.2.2.1.1,x.2.2.2.2.2.2.1.2.1,x.2.2.2.2.2.2.1.2.2.1,x.2.2.2.2.2.2.2.1,x.2.2.2.2.2.2.2.2.1⟩
def Gy:lH (UU×Unit):=bI Uj kK
theorem JG:iC Gy:=aQ JC dU
theorem yy {c:V} {s:Nat} {n:Int} (h:Kb c=some (s,n)):∃y,c= .ag [.lp s 0,y]/\rI .i64 y=some n:=by
 unfold Kb at h;repeat' (first| (split at h<;>try(simp at h;done))|skip)
 rename_i y n' hn ho;simp only[VI,VJ]at h;obtain⟨rfl,rfl⟩:=h;have:=VM.1 ho;subst this;exact⟨_,rfl,hn⟩
theorem ak.Ql {P:Program} {f:Nat} {rest:List V} {res:List aC} {K KP:V->List aC->Prop} {b s tm t e:Nat} {L M:List Obj} {n n':Int} {x:V}
  (hb:ar res b= .blk tm (pz s n)) (hs:ar res s= .store t e L) (hid:la rest=true) (hx:jJ x=true)
  (h:ak P f (.lp 0 0::rest) [.blk tm (pz 1 n),.store t e L] (fun v r=>wv x v r/\ar r 0= .blk tm (pz 1 n')/\ar r 1= .store t e M) (fun _ _=>False))
  (hK:K x (bw (bw res b (.blk tm (pz s n'))) s (.store t e M))):ak P f (.lp b 0::rest) res K KP:=by
 have hkb:known res b:=by unfold known;rw[hb];simp
 have hks:known res s:=by unfold known;rw[hs];simp
 have hlb:=aG hkb;have hls:=aG hks;have hne:b≠s:=fun e=>by rw[e,hs]at hb;simp at hb
 refine ak.frame (pl:= [(b,true),(s,true)]) (args0:= .lp 0 0::rest) (K0:=fun v r=>wv x v r/\ar r 0= .blk tm (pz 1 n')/\ar r 1= .store t e M) (KP0:=fun _ _=>False)
  (by simp[eA,cm.2 hkb,cm.2 hks]) (by simp[iU,dr,pG,hlb,hls,hne,Ne.symm hne]) ?_ ?_ (fun v r hv=>?_) (fun _ _ h=>h.elim)
 ·simp only[dS,eZ,kz,idxOf,dr];rw[lC rest hid];simp
 ·have:ew (kz 0 (dr [(b,true),(s,true)])) res [(b,true),(s,true)]= [.blk tm (pz 1 n),.store t e L]:=by simp[ew,hb,hs,fW,pz,eZ,dS,kz,idxOf,dr,hne,Ne.symm hne]
  rw[this];exact h
 ·obtain⟨h1,h2,h3⟩:=hv;have hm:merge [(b,true),(s,true)] [] r res=bw (bw res b (.blk tm (pz s n'))) s (.store t e M):=by simp[merge,ff,h2,h3,fW,gm,pz,eZ,dS,back,vC]
  exact⟨[],x,rfl,by simp[lT,h2,h3,iP],rfl,j7.jJ h1 hx,by rw[hm];exact hK⟩
theorem ak.Vl {P:Program} {f:Nat} {args:List V} {res:List aC} {K KP:V->List aC->Prop} {b s tm:Nat} {y:V} {n:Int} (hb:ar res b= .blk tm (.ag [.lp s 0,y])) (hy:rI .i64 y=some n)
  (h:ak P f args (bw res b (.blk tm (pz s n))) K KP):ak P f args res K KP:=by
 have hkb:known res b:=by unfold known;rw[hb];simp
 have hlb:=aG hkb
 have hkn:∀i,known (bw res b (.blk tm (pz s n))) i↔known res i:=fun i=>by
  unfold known;rw[bq _ _ _ _ hlb];by_cases e:i=b
  ·subst e;rw[VR rfl,hb];simp
  ·rw[VQ e]
 have hK:known (bw res b (.blk tm (pz s n)))=known res:=by funext i;exact propext (hkn i)
 obtain⟨r1,r2⟩:=gJ .i64 y n hy;refine h.tF fun J fps w0 F0 w hH=>⟨J,fps,hH.weaken (fun i hi=>⟨(hkn i).1 hi,fun fp hh=>?_⟩),Env.bg.refl _ _,fun i hi=>(hkn i).2 hi⟩
 rw[hK,bq _ _ _ _ hlb];by_cases e:i=b
 ·subst e;rw[VR rfl];rw[hb]at hh;obtain⟨h1,h2,h3,h4⟩:=hh;have hd:=r1 J;refine⟨?_,rfl,h3,?_⟩
  ·exact⟨⟨h1.1.1,eW (r2 _ h1.1.2.1),trivial⟩,trivial,trivial,trivial⟩
  ·rw[h4];simp only[cells,pz,den,aZ,Value.cells,hd]
 ·rw[VQ e];exact hh
def HZ:Ct:=Ci (bI Uj (bI iA kK)) (fun x=>some (az x.1.2.2.2.2.2.1/\gF x.2.1)) fun x=> .bo (ec (FQ x.1) x.2.1)
def Rg:Ct:=Ci (bI oA Gy) (fun x=>some (gh (FQ x.2.1).s0=true/\gh (FQ x.2.1).s1=true/\gh (FQ x.2.1).s2=true)) fun x=>rp (bp x.1 (FQ x.2.1))
def TQ (Q:List Obj->Int->k9->Prop) (F:List Obj->Int->k9->V) (N:Int->k9->Int) (M:List Obj->Int->k9->List Obj):nz:=fun args res K=>
 match args with
 |a::l=>match GP Gy l with
  |some x=>match a with
   | .lp b off=>if off==0 then match ar res b with
     | .blk t c=>match Kb c with
       |some (s,n)=>match ar res s with
        | .store ts e L=>if t==xm&&ts==tS&&e==eS then Q L n (FQ x.1)/\K (F L n (FQ x.1)) (bw (bw res b (.blk xm (pz s (N n (FQ x.1))))) s (.store tS eS (M L n (FQ x.1))))else False
        |_=>False
       |none=>False
     |_=>False
     else False
   |_=>False
  |none=>False
 |_=>False
def T1 (L:List Obj) (n:Int) (p:k9):Prop:=aw L/\az p.data/\gF n
def P6:nz:=TQ T1 (fun L n p=> .tp [TJ (aM L n p),.it .i64 (g9 n p)]) jv fk
def Q5:nz:=TQ (fun L n p=>T1 L n p/\ec p n=true/\p.kind=1) (fun L n p=>TJ (aM L n p)) (fun n _=>n) fk
def UP (c:V):Option Int:=
 match c with
 | .ag q=>match q with
   | [p,y]=>match p with
     | .lp s off=>match y with
       | .it k n=>match k with
         | .i64=>if s==1&&off==0 then some n else none
         |_=>none
       |_=>none
     |_=>none
   |_=>none
 |_=>none
theorem Ij {c:V} {n:Int} (h:UP c=some n):c=pz 1 n:=by
 unfold UP at h;split at h
 case h_2=>simp at h
 split at h
 case h_2=>simp at h
 split at h
 case h_2=>simp at h
 split at h
 case h_2=>simp at h
 split at h
 case h_2=>simp at h
 split at h
 case isFalse=>simp at h
 rename_i hc;simp only[VK,VM]at hc;obtain⟨rfl,rfl⟩:=hc;simp only[VI]at h;subst h;rfl
def TC (r:aC) (m:Int):Prop:=
 match r with
 | .blk t c=>match UP c with
   |some n=>if t==xm then n=m else False
   |none=>False
 |_=>False
theorem DQ {r:aC} {m:Int} (h:TC r m):r= .blk xm (pz 1 m):=by
 unfold TC at h;split at h
 case h_2=>exact h.elim
 split at h
 case h_2=>exact h.elim
 rename_i n hn;split at h
 case isFalse=>exact h.elim
 rename_i ht;have ht:=VM.1 ht;subst ht;subst h;rw[Ij hn]
def U1 (x:V) (n:Int) (M:List Obj) (v:V) (r:List aC):Prop:=
 match ar r 1 with
 | .store t e L=>if t==tS&&e==eS then TC (ar r 0) n/\nE x v r/\L=M else False
 |_=>False
theorem N3 {x:V} {n:Int} {M:List Obj} {v:V} {r:List aC} (h:U1 x n M v r):wv x v r/\ar r 0= .blk xm (pz 1 n)/\ar r 1= .store tS eS M:=by
 unfold U1 at h;split at h
 ·rename_i hr;split at h
  ·rename_i hc;simp only[VK,VM]at hc;obtain⟨rfl,rfl⟩:=hc;obtain⟨h1,h2,rfl⟩:=h;exact⟨cO h2,DQ h1,hr⟩
  ·exact h.elim
 ·exact h.elim
theorem GS {P:Program} {f:Nat} {Q:List Obj->Int->k9->Prop} {F:List Obj->Int->k9->V} {N:Int->k9->Int} {M:List Obj->Int->k9->List Obj} (hF:∀L n p,jJ (F L n p)=true)
  (h:∀L n p,Q L n p->ak P f [.lp 0 0,Lz p] [.blk xm (pz 1 n),.store tS eS L] (U1 (F L n p) (N n p) (M L n p)) (fun _ _=>False)):oM P f (TQ Q F N M):=by
 intro args res K KP hh;unfold TQ at hh;split at hh
 case h_2=>exact hh.elim
 split at hh
 case h_2=>exact hh.elim
 rename_i x hx;split at hh
 case h_2=>exact hh.elim
 rename_i b off;split at hh
 case isFalse=>exact hh.elim
 rename_i ho;have ho:=VM.1 ho;subst ho;split at hh
 case h_2=>exact hh.elim
 rename_i t c hb;split at hh
 case h_2=>exact hh.elim
 rename_i s n hc;split at hh
 case h_2=>exact hh.elim
 rename_i ts e L hs;split at hh
 case isFalse=>exact hh.elim
 rename_i ht;simp only[VK,VM]at ht;obtain⟨⟨rfl,rfl⟩,rfl⟩:=ht;obtain⟨hq,hK⟩:=hh;obtain⟨y,rfl,hy⟩:=yy hc;have hkb:known res b:=by unfold known;rw[hb];simp
 have hlb:=aG hkb;refine ak.args (ep.kL (nW JG (fun _=>rfl) _ _ hx)) ?_
 refine ak.Vl hb hy ?_;have hne:b≠s:=fun e=>by rw[e,hs]at hb;simp at hb
 refine ak.Ql (rest:=Gy.cn x 0) (by rw[bq _ _ _ _ hlb,VR rfl]) (by rw[bq _ _ _ _ hlb,VQ (Ne.symm hne)];exact hs) rfl (hF _ _ _) ((h L n (FQ x.1) hq).mono (fun _ _ hv=>N3 hv) fun _ _ h=>h) ?_
 have:∀(l:List aC) (i:Nat) (a b:aC),bw (bw l i a) i b=bw l i b:=fun l i a b=>by rw[jl,jl,jl,List.set_set]
 rw[this];exact hK
end Go.Sx
