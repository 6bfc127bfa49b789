import Derived.Test.YtlblcfaclmpekaaGreatSpMc
set_option linter.unusedSimpArgs false
set_option linter.unusedVariables false
set_option maxRecDepth 100000
namespace Go.Sx
def zT (l:TL) (j:Nat):k9:=match GP Gy [l.get j]with
 |some x=>FQ x.1
 |none=>gN
def DN (l:TL) (L:List Obj) (n:Int):Nat->List Obj×Int
 |0=>(L,n)
 |j+1=>(fk (DN l L n j).1 (DN l L n j).2 (zT l j),jv (DN l L n j).2 (zT l j))
def aL (l:TL) (L:List Obj) (n:Int) (i:Int):List Obj:=(DN l L n i.toNat).1
def aO (l:TL) (L:List Obj) (n:Int) (i:Int):Int:=(DN l L n i.toNat).2
def Sd (l:TL) (L:List Obj) (n:Int) (j:Nat):Dn:=aM (DN l L n j).1 (DN l L n j).2 (zT l j)
def Ev (l:TL) (L:List Obj) (n:Int) (j:Nat):V:=TJ (Sd l L n j)
def Cg (l:TL) (L:List Obj) (n:Int) (i:Int):Prop:=0<=i/\i<=(l.len:Int)/\∀j:Nat,(j:Int)<i->g9 (DN l L n j).2 (zT l j)=0
def Pz (U:St) (t u:Nat):Option (Nat×Nat×List Obj×Int×TL):=
 match bF U.slots t with
 | .v m=>match m with
   | .lp b _=>match bF U.slots u with
     | .v k=>match k with
       | .sa k=>match ar U.res b with
         | .blk _ c=>match Kb c with
           |some (s,n)=>match ar U.res s with
            | .store _ _ L=>match cU U.res k with
              | .arr _ _ l=>some (b,s,L,n,l)
              |_=>none
            |_=>none
           |none=>none
         |_=>none
       |_=>none
     |_=>none
   |_=>none
 |_=>none
abbrev RX:Nat:=49
def UC (kL:List Nat) (t u o i:Nat):cS:=
 {γ:=Int,head:=fun U g=>match Pz U t u with
   |some (b,s,L,n,l)=> {U with slots:=LC kL [(o,.sa U.res.length),(i,.it .i64 g)] 0 U.slots,res:=bw (bw U.res b (.blk xm (pz s (aO l L n g)))) s (.store tS eS (aL l L n g))++ [.arr (some RX) 24 (.fn (nD g) (Ev l L n))]}
   |none=>U,
  inv:=fun _=>True,μ:=fun g=>nD (tY 1000 g),ext:=UF o,
  prs:=fun U=>match Pz U t u with
   |some (_,_,L,n,l)=> [.sl o RX 24 (.fn 0 (Ev l L n))]
   |none=> []
  pin:=some fun U g=>match Pz U t u with
   |some (b,s,L,n,l)=>Cg l L n g
   |none=>False}
def km (l:TL) (L:List Obj) (n:Int):Nat->Nat->Nat
 |0,j=>j
 |k+1,j=>if g9 (DN l L n j).2 (zT l j)=0 then km l L n k (j+1)else j
def au (l:TL) (L:List Obj) (n:Int):Int:=(km l L n l.len 0:Int)
def qI (l:TL) (L:List Obj) (n:Int):Int:=if au l L n=(l.len:Int)then 0 else 2
def oK (l:TL) (L:List Obj) (n:Int):Prop:=aw L/\gF n/\∃x:List k9,l=ai x/\pA x/\an x<=40
theorem uD (l:TL) (L:List Obj) (n:Int):∀(k j:Nat),j<=km l L n k j/\km l L n k j<=j+k/\(∀i,j<=i->i<km l L n k j->g9 (DN l L n i).2 (zT l i)=0)/\(km l L n k j<j+k->¬g9 (DN l L n (km l L n k j)).2 (zT l (km l L n k j))=0)
 |0,j=>⟨Nat.le_refl _,Nat.le_refl _,fun i h1 h2=>by simp only[km]at h2;omega,fun h=>by simp only[km]at h;omega⟩
 |k+1,j=>by
  unfold km;split
  ·rename_i h;obtain⟨a,b,c,d⟩:=uD l L n k (j+1);refine⟨by omega,by omega,fun i h1 h2=>?_,fun h=>d (by omega)⟩
   by_cases e:i=j
   ·subst e;assumption
   ·exact c i (by omega) h2
  ·rename_i h;exact⟨Nat.le_refl _,by omega,fun i h1 h2=>by omega,fun _=>h⟩
theorem IB {l:TL} {L:List Obj} {n:Int} {i:Int} (h:Cg l L n i) (hs:i=(l.len:Int)\/¬g9 (DN l L n i.toNat).2 (zT l i.toNat)=0):au l L n=i:=by
 obtain⟨h0,h1,h2⟩:=h;obtain⟨_,b,c,d⟩:=uD l L n l.len 0;have hi:(i.toNat:Int)=i:=by omega
 show((km l L n l.len 0:Nat):Int)=i
 generalize km l L n l.len 0=s at *
 by_cases hlt:s<i.toNat
 ·exact absurd (h2 s (by omega)) (d (by omega))
 by_cases hgt:i.toNat<s
 ·rcases hs with hs|hs
  ·omega
  ·exact absurd (c i.toNat (by omega) hgt) hs
 ·omega
theorem vx {l:TL} {L:List Obj} {n:Int} (hL:aw L) (hn:gF n):∀j,aw (DN l L n j).1/\gF (DN l L n j).2
 |0=>⟨hL,hn⟩
 |j+1=>⟨QG (vx hL hn j).1,P4 (vx hL hn j).2⟩
def T5 (n':Int) (M:List Obj) (s:Int) (F:Nat->V) (x:V) (v:V) (r:List aC):Prop:=
 match v with
 | .tp vs=>match vs with
   |a::bs=>match a with
    | .sa p=>match ar r p with
      | .arr o ez tl=>match o with
        |some ty=>match tl with
         | .fn m G=>if ty==RX&&ez==24&&Nat.ble 3 p then(match ar r 1 with
           | .store t e L=>if t==tS&&e==eS then TC (ar r 0) n'/\nE (.tp [x]) (.tp bs) r/\L=M/\m=nD s/\G=F else False
           |_=>False)else False
         |_=>False
        |none=>False
      |_=>False
    |_=>False
   | []=>False
 |_=>False
theorem L0 {n':Int} {M:List Obj} {s:Int} {F:Nat->V} {x v:V} {r:List aC} (h:T5 n' M s F x v r):∃p bs,v= .tp (.sa p::bs)/\nE (.tp [x]) (.tp bs) r/\3<=p/\ar r p= .arr (some RX) 24 (.fn (nD s) F)/\ar r 0= .blk xm (pz 1 n')/\ar r 1= .store tS eS M:=by
 unfold T5 at h;split at h
 case h_2=>exact h.elim
 split at h
 case h_2=>exact h.elim
 split at h
 case h_2=>exact h.elim
 rename_i bs _ p;split at h
 case h_2=>exact h.elim
 rename_i hrp;split at h
 case h_2=>exact h.elim
 split at h
 case h_2=>exact h.elim
 split at h
 case isFalse=>exact h.elim
 rename_i hc;simp only[VK,VM,Nat.ble_eq]at hc;obtain⟨⟨rfl,rfl⟩,hp⟩:=hc;split at h
 case h_2=>exact h.elim
 rename_i hr1;split at h
 case isFalse=>exact h.elim
 rename_i ht;simp only[VK,VM]at ht;obtain⟨rfl,rfl⟩:=ht;obtain⟨h1,h2,rfl,rfl,rfl⟩:=h;exact⟨p,bs,rfl,h2,hp,hrp,DQ h1,hr1⟩
def CW:nz:=fun args res K=>
 match args with
 | [a,c]=>match a with
   | .lp b off=>if off==0 then match c with
     | .sa k=>match ar res b with
       | .blk t y=>match Kb y with
         |some (s,n)=>match ar res s with
          | .store ts e L=>match cU res k with
            | .arr _ esz l=>if t==xm&&ts==tS&&e==eS&&esz==11 then oK l L n/\
              K (.tp [.sa res.length,.it .i64 (qI l L n)]) (bw (bw res b (.blk xm (pz s (aO l L n (au l L n))))) s (.store tS eS (aL l L n (au l L n)))++ [.arr (some RX) 24 (.fn (nD (au l L n)) (Ev l L n))])else False
            |_=>False
          |_=>False
         |none=>False
       |_=>False
     |_=>False
     else False
   |_=>False
 |_=>False
theorem ak.Rt {P:Program} {f:Nat} {args:List V} {K KP:V->List aC->Prop} {own:Option Nat} {e:Nat} {l:TL} {a b:aC} (h:ak P f args [a,b,.ro (.arr none e l)] K KP):ak P f args [a,b,.ro (.arr own e l)] K KP:=by
 have hK:known [a,b,.ro (.arr own e l)]=known [a,b,.ro (.arr none e l)]:=by
  funext i
  match i with
  |0=>rfl
  |1=>rfl
  |2=>simp[known,ar]
  |n+3=>rfl
 refine h.tF fun J fps w0 F0 w hH=>⟨J,fps,hH.weaken fun i hi=>⟨by rw[hK];exact hi,fun fp hh=>?_⟩,Env.bg.refl _ _,fun i hi=>by rw[<-hK];exact hi⟩
 rw[hK]at hh;match i with
 |0=>exact hh
 |1=>exact hh
 |2=>
  obtain⟨fp',g1,g2⟩:=hh;exact⟨fp',JA g1,g2⟩
 |n+3=>exact hh
theorem Rn {P:Program} {f:Nat} (h:∀(x:List k9) (L:List Obj) (n:Int),oK (ai x) L n->ak P f [.lp 0 0,.sa 2] [.blk xm (pz 1 n),.store tS eS L,.ro (.arr none 11 (ai x))]
  (T5 (aO (ai x) L n (au (ai x) L n)) (aL (ai x) L n (au (ai x) L n)) (au (ai x) L n) (Ev (ai x) L n) (.it .i64 (qI (ai x) L n))) (fun _ _=>False)):oM P f CW:=by
 intro args res K KP hh;unfold CW at hh;split at hh
 case h_2=>exact hh.elim
 split at hh
 case h_2=>exact hh.elim
 rename_i b off;split at hh
 case isFalse=>exact hh.elim
 rename_i ho;have ho:=VM.1 ho;subst ho;split at hh
 case h_2=>exact hh.elim
 rename_i k;split at hh
 case h_2=>exact hh.elim
 rename_i t c hb;split at hh
 case h_2=>exact hh.elim
 rename_i s n hc;split at hh
 case h_2=>exact hh.elim
 rename_i ts e L hs;split at hh
 case h_2=>exact hh.elim
 rename_i own esz l hk;split at hh
 case isFalse=>exact hh.elim
 rename_i ht;simp only[VK,VM]at ht;obtain⟨⟨⟨rfl,rfl⟩,rfl⟩,rfl⟩:=ht;obtain⟨hq,hK⟩:=hh;obtain⟨x,rfl,_⟩:=id hq.2.2;obtain⟨y,rfl,hy⟩:=yy hc;have hkb:known res b:=by unfold known;rw[hb];simp
 have hlb:=aG hkb;have hne:b≠s:=fun e=>by rw[e,hs]at hb;simp at hb
 have hnk:b≠k:=fun e=>by unfold cU at hk;rw[<-e,hb]at hk;simp at hk
 have hsk:s≠k:=fun e=>by unfold cU at hk;rw[<-e,hs]at hk;simp at hk
 refine ak.Vl hb hy ?_;have hl1:(bw res b (.blk xm (pz s n))).length=res.length:=bS _ _ _;have hb1:ar (bw res b (.blk xm (pz s n))) b= .blk xm (pz s n):=by rw[bq _ _ _ _ hlb,VR rfl]
 have hs1:ar (bw res b (.blk xm (pz s n))) s= .store tS eS L:=by rw[bq _ _ _ _ hlb,VQ (Ne.symm hne)];exact hs
 have hk1:cU (bw res b (.blk xm (pz s n))) k= .arr own 11 (ai x):=by unfold cU at hk⊢;rw[bq _ _ _ _ hlb,VQ (Ne.symm hnk)];exact hk
 have hrr:bw res b (.blk xm (pz s (aO (ai x) L n (au (ai x) L n))))=bw (bw res b (.blk xm (pz s n))) b (.blk xm (pz s (aO (ai x) L n (au (ai x) L n)))):=by rw[jl,jl,jl,List.set_set]
 rw[hrr,<-hl1]at hK;generalize bw res b (.blk xm (pz s n))=res at *
 have kb:known res b:=by unfold known;rw[hb1];simp
 have ks:known res s:=by unfold known;rw[hs1];simp
 have kk':=eK hk1 (by simp)
 have lb:=aG kb;have ls:=aG ks;have lk:=aG kk'
 have hres:ew (kz 0 (dr [(b,true),(s,true),(k,false)])) res [(b,true),(s,true),(k,false)]= [.blk xm (pz 1 n),.store tS eS L,.ro (.arr own 11 (ai x))]:=by
  simp[ew,hb1,hs1,hk1,fW,pz,eZ,dS,kz,idxOf,dr,hne,Ne.symm hne,hnk,Ne.symm hnk,hsk,Ne.symm hsk]
 refine ak.frame (pl:= [(b,true),(s,true),(k,false)]) (args0:= [.lp 0 0,.sa 2]) (K0:=T5 (aO (ai x) L n (au (ai x) L n)) (aL (ai x) L n (au (ai x) L n)) (au (ai x) L n) (Ev (ai x) L n) (.it .i64 (qI (ai x) L n))) (KP0:=fun _ _=>False)
  (by simp[eA,cm.2 kb,cm.2 ks,cm.2 kk']) (by simp[iU,dr,pG,lb,ls,lk,hne,Ne.symm hne,hnk,Ne.symm hnk,hsk,Ne.symm hsk]) ?_ ?_ (fun v r hv=>?_) (fun _ _ h=>h.elim)
 ·simp[dS,eZ,kz,idxOf,dr,hnk,Ne.symm hnk,hsk,Ne.symm hsk]
 ·rw[hres];exact ak.Rt (h x L n hq)
 ·obtain⟨p,bs,rfl,h2,hp,hrp,h0,h1⟩:=L0 hv;have hpl:p<r.length:=aG (by rw[hrp];simp)
  have hm:merge [(b,true),(s,true),(k,false)] [p] r res=bw (bw res b (.blk xm (pz s (aO (ai x) L n (au (ai x) L n))))) s (.store tS eS (aL (ai x) L n (au (ai x) L n)))++ [.arr (some RX) 24 (.fn (nD (au (ai x) L n)) (Ev (ai x) L n))]:=by
   simp[merge,ff,h0,h1,hrp,fW,gm,pz,eZ,dS,back,vC]
  refine⟨[p],.tp [.sa res.length,.it .i64 (qI (ai x) L n)],by simpa[iU,pG]using⟨hp,hpl⟩,by simp[lT,h0,h1,iP],by simp[nY,hrp,iP],H9 ?_ rfl h2,by rw[hm];exact hK⟩
  unfold back;rw[tX _ _ (by simpa using hp)]
  simp[idxOf]
theorem BF {L:List Obj} {i:Int} {o:Obj} (hL:aw L):aw (bP L i o):=by
 unfold bP;split
 ·rename_i h;rcases Df o (an L:Int)with⟨_,h2⟩|⟨h1,_⟩
  ·exact jk hL h2
  ·rw[h.2]at h1;simp at h1
 ·exact hL
theorem LY {n:Int} (h:fy n=true):aw (jG n):=by
 unfold fy at h;simp only[VK,VL]at h;have hl:(jG n).length=n.toNat:=by simp[jG]
 have key:∀k:Fin 65,1<=k.val->bu free (k.val:Int)=true:=by decide+kernel
 refine fH.2 ⟨by omega,by omega,fun i hi=>?_⟩
 have e:aq (jG n) i free=free:=by
  unfold aq jG;rw[VP,List.getElem?_replicate];split<;>rfl
 rw[e,hl];exact key ⟨n.toNat,by omega⟩ (by simp only;omega)
theorem L8 {n:Int} (h:fy n=true):aw (ab n):=BF (BF (LY h))
end Go.Sx
