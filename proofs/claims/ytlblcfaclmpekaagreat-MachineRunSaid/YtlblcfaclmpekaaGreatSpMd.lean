import Derived.Test.YtlblcfaclmpekaaGreatSpMc
set_option linter.unusedSimpArgs false
set_option linter.unusedVariables false
set_option maxRecDepth 100000
namespace Go.Sx
def xu (l:TL) (j:Nat):k7:=match GK Fa [l.get j]with
 |some x=>Ga x.1
 |none=>cR
def Cm (l:TL) (L:List Obj) (n:Int):Nat->List Obj×Int
 |0=>(L,n)
 |j+1=>(eu (Cm l L n j).1 (Cm l L n j).2 (xu l j),gA (Cm l L n j).2 (xu l j))
def bN (l:TL) (L:List Obj) (n:Int) (i:Int):List Obj:=(Cm l L n i.toNat).1
def bg (l:TL) (L:List Obj) (n:Int) (i:Int):Int:=(Cm l L n i.toNat).2
def jE (l:TL) (L:List Obj) (n:Int) (j:Nat):Dn:=aK (Cm l L n j).1 (Cm l L n j).2 (xu l j)
def At (l:TL) (L:List Obj) (n:Int) (j:Nat):V:=TD (jE l L n j)
def mM (l:TL) (L:List Obj) (n:Int) (i:Int):Prop:=0<=i/\i<=(l.len:Int)/\∀j:Nat,(j:Int)<i->eT (Cm l L n j).2 (xu l j)=0
def Pj (U:St) (t u:Nat):Option (Nat×Nat×List Obj×Int×TL):=
 match bD U.slots t with
 | .v m=>match m with
   | .lp b _=>match bD U.slots u with
     | .v k=>match k with
       | .sa k=>match an U.res b with
         | .blk _ c=>match H9 c with
           |some (s,n)=>match an U.res s with
            | .store _ _ L=>match cT U.res k with
              | .arr _ _ l=>some (b,s,L,n,l)
              |_=>none
            |_=>none
           |none=>none
         |_=>none
       |_=>none
     |_=>none
   |_=>none
 |_=>none
abbrev RH:Nat:=49
def Um (kL:List Nat) (t u o i:Nat):cU:=
 {γ:=Int,head:=fun U g=>match Pj U t u with
   |some (b,s,L,n,l)=> {U with slots:=Mo kL [(o,.sa U.res.length),(i,.it .i64 g)] 0 U.slots,res:=br (br U.res b (.blk vY (oO s (bg l L n g)))) s (.store tS eS (bN l L n g))++ [.arr (some RH) 24 (.fn (nA g) (At l L n))]}
   |none=>U,
  inv:=fun _=>True,μ:=fun g=>nA (rN 1000 g),ext:=UX o,
  prs:=fun U=>match Pj U t u with
   |some (_,_,L,n,l)=> [.sl o RH 24 (.fn 0 (At l L n))]
   |none=> []
  pin:=some fun U g=>match Pj U t u with
   |some (b,s,L,n,l)=>mM l L n g
   |none=>False}
def j5 (l:TL) (L:List Obj) (n:Int):Nat->Nat->Nat
 |0,j=>j
 |k+1,j=>if eT (Cm l L n j).2 (xu l j)=0 then j5 l L n k (j+1)else j
def bI (l:TL) (L:List Obj) (n:Int):Int:=(j5 l L n l.len 0:Int)
def fY (l:TL) (L:List Obj) (n:Int):Int:=if bI l L n=(l.len:Int)then 0 else 2
def vx (l:TL) (L:List Obj) (n:Int):Prop:=ar L/\gF n/\∃x:List k7,l=az x/\tV x/\aq x<=40
theorem mR (l:TL) (L:List Obj) (n:Int):∀(k j:Nat),j<=j5 l L n k j/\j5 l L n k j<=j+k/\(∀i,j<=i->i<j5 l L n k j->eT (Cm l L n i).2 (xu l i)=0)/\(j5 l L n k j<j+k->¬eT (Cm l L n (j5 l L n k j)).2 (xu l (j5 l L n k j))=0)
 |0,j=>⟨Nat.le_refl _,Nat.le_refl _,fun i h1 h2=>by simp only[j5]at h2;omega,fun h=>by simp only[j5]at h;omega⟩
 |k+1,j=>by
  unfold j5;split
  ·rename_i h;obtain⟨a,b,c,d⟩:=mR l L n k (j+1);refine⟨by omega,by omega,fun i h1 h2=>?_,fun h=>d (by omega)⟩
   by_cases e:i=j
   ·subst e;assumption
   ·exact c i (by omega) h2
  ·rename_i h;exact⟨Nat.le_refl _,by omega,fun i h1 h2=>by omega,fun _=>h⟩
theorem zc {l:TL} {L:List Obj} {n:Int} {i:Int} (h:mM l L n i) (hs:i=(l.len:Int)\/¬eT (Cm l L n i.toNat).2 (xu l i.toNat)=0):bI l L n=i:=by
 obtain⟨h0,h1,h2⟩:=h;obtain⟨_,b,c,d⟩:=mR l L n l.len 0;have hi:(i.toNat:Int)=i:=by omega
 show((j5 l L n l.len 0:Nat):Int)=i
 generalize j5 l L n l.len 0=s at *
 by_cases hlt:s<i.toNat
 ·exact absurd (h2 s (by omega)) (d (by omega))
 by_cases hgt:i.toNat<s
 ·rcases hs with hs|hs
  ·omega
  ·exact absurd (c i.toNat (by omega) hgt) hs
 ·omega
theorem Tb (l:TL) (L:List Obj) (n:Int):mM l L n (bI l L n):=by
 obtain⟨_,b,c,d⟩:=mR l L n l.len 0;exact⟨by unfold bI;omega,by unfold bI;omega,fun j hj=>c j (by omega) (by unfold bI at hj;omega)⟩
theorem Tj (l:TL) (L:List Obj) (n:Int):bI l L n=(l.len:Int)\/¬eT (Cm l L n (bI l L n).toNat).2 (xu l (bI l L n).toNat)=0:=by
 obtain⟨_,b,c,d⟩:=mR l L n l.len 0;unfold bI;by_cases h:j5 l L n l.len 0<0+l.len
 ·exact .inr (by simpa using d h)
 ·exact .inl (by omega)
theorem zY {l:TL} {L:List Obj} {n:Int} (hL:ar L) (hn:gF n):∀j,ar (Cm l L n j).1/\gF (Cm l L n j).2
 |0=>⟨hL,hn⟩
 |j+1=>⟨Pu (zY hL hn j).1,Rv (zY hL hn j).2⟩
def TJ (n':Int) (M:List Obj) (s:Int) (F:Nat->V) (x:V) (v:V) (r:List aB):Prop:=
 match v with
 | .tp vs=>match vs with
   |a::bs=>match a with
    | .sa p=>match an r p with
      | .arr o ez tl=>match o with
        |some ty=>match tl with
         | .fn m G=>if ty==RH&&ez==24&&Nat.ble 3 p then(match an r 1 with
           | .store t e L=>if t==tS&&e==eS then T2 (an r 0) n'/\nI (.tp [x]) (.tp bs) r/\L=M/\m=nA s/\G=F else False
           |_=>False)else False
         |_=>False
        |none=>False
      |_=>False
    |_=>False
   | []=>False
 |_=>False
theorem Of {n':Int} {M:List Obj} {s:Int} {F:Nat->V} {x v:V} {r:List aB} (h:TJ n' M s F x v r):∃p bs,v= .tp (.sa p::bs)/\nI (.tp [x]) (.tp bs) r/\3<=p/\an r p= .arr (some RH) 24 (.fn (nA s) F)/\an r 0= .blk vY (oO 1 n')/\an r 1= .store tS eS M:=by
 unfold TJ at h;split at h
 case h_2=>exact h.elim
 split at h
 case h_2=>exact h.elim
 split at h
 case h_2=>exact h.elim
 rename_i bs _ p;split at h
 case h_2=>exact h.elim
 rename_i hrp;split at h
 case h_2=>exact h.elim
 split at h
 case h_2=>exact h.elim
 split at h
 case isFalse=>exact h.elim
 rename_i hc;simp only[VG,VI,Nat.ble_eq]at hc;obtain⟨⟨rfl,rfl⟩,hp⟩:=hc;split at h
 case h_2=>exact h.elim
 rename_i hr1;split at h
 case isFalse=>exact h.elim
 rename_i ht;simp only[VG,VI]at ht;obtain⟨rfl,rfl⟩:=ht;obtain⟨h1,h2,rfl,rfl,rfl⟩:=h;exact⟨p,bs,rfl,h2,hp,hrp,DO h1,hr1⟩
def CZ:np:=fun args res K=>
 match args with
 | [a,c]=>match a with
   | .lp b off=>if off==0 then match c with
     | .sa k=>match an res b with
       | .blk t y=>match H9 y with
         |some (s,n)=>match an res s with
          | .store ts e L=>match cT res k with
            | .arr _ esz l=>if t==vY&&ts==tS&&e==eS&&esz==11 then vx l L n/\
              K (.tp [.sa res.length,.it .i64 (fY l L n)]) (br (br res b (.blk vY (oO s (bg l L n (bI l L n))))) s (.store tS eS (bN l L n (bI l L n)))++ [.arr (some RH) 24 (.fn (nA (bI l L n)) (At l L n))])else False
            |_=>False
          |_=>False
         |none=>False
       |_=>False
     |_=>False
     else False
   |_=>False
 |_=>False
theorem aj.Py {P:Program} {f:Nat} {args:List V} {K KP:V->List aB->Prop} {own:Option Nat} {e:Nat} {l:TL} {a b:aB} (h:aj P f args [a,b,.ro (.arr none e l)] K KP):aj P f args [a,b,.ro (.arr own e l)] K KP:=by
 have hK:known [a,b,.ro (.arr own e l)]=known [a,b,.ro (.arr none e l)]:=by
  funext i
  match i with
  |0=>rfl
  |1=>rfl
  |2=>simp[known,an]
  |n+3=>rfl
 refine h.tr fun J fps w0 F0 w hH=>⟨J,fps,hH.weaken fun i hi=>⟨by rw[hK];exact hi,fun fp hh=>?_⟩,Env.bc.refl _ _,fun i hi=>by rw[<-hK];exact hi⟩
 rw[hK]at hh;match i with
 |0=>exact hh
 |1=>exact hh
 |2=>
  obtain⟨fp',g1,g2⟩:=hh;exact⟨fp',HO g1,g2⟩
 |n+3=>exact hh
theorem QX {P:Program} {f:Nat} (h:∀(x:List k7) (L:List Obj) (n:Int),vx (az x) L n->aj P f [.lp 0 0,.sa 2] [.blk vY (oO 1 n),.store tS eS L,.ro (.arr none 11 (az x))]
  (TJ (bg (az x) L n (bI (az x) L n)) (bN (az x) L n (bI (az x) L n)) (bI (az x) L n) (At (az x) L n) (.it .i64 (fY (az x) L n))) (fun _ _=>False)):oP P f CZ:=by
 intro args res K KP hh;unfold CZ at hh;split at hh
 case h_2=>exact hh.elim
 split at hh
 case h_2=>exact hh.elim
 rename_i b off;split at hh
 case isFalse=>exact hh.elim
 rename_i ho;have ho:=VI.1 ho;subst ho;split at hh
 case h_2=>exact hh.elim
 rename_i k;split at hh
 case h_2=>exact hh.elim
 rename_i t c hb;split at hh
 case h_2=>exact hh.elim
 rename_i s n hc;split at hh
 case h_2=>exact hh.elim
 rename_i ts e L hs;split at hh
 case h_2=>exact hh.elim
 rename_i own esz l hk;split at hh
 case isFalse=>exact hh.elim
 rename_i ht;simp only[VG,VI]at ht;obtain⟨⟨⟨rfl,rfl⟩,rfl⟩,rfl⟩:=ht;obtain⟨hq,hK⟩:=hh;obtain⟨x,rfl,_⟩:=id hq.2.2;obtain⟨y,rfl,hy⟩:=yr hc;have hkb:known res b:=by unfold known;rw[hb];simp
 have hlb:=aF hkb;have hne:b≠s:=fun e=>by rw[e,hs]at hb;simp at hb
 have hnk:b≠k:=fun e=>by unfold cT at hk;rw[<-e,hb]at hk;simp at hk
 have hsk:s≠k:=fun e=>by unfold cT at hk;rw[<-e,hs]at hk;simp at hk
 refine aj.Vk hb hy ?_;have hl1:(br res b (.blk vY (oO s n))).length=res.length:=bS _ _ _;have hb1:an (br res b (.blk vY (oO s n))) b= .blk vY (oO s n):=by rw[bm _ _ _ _ hlb,VN rfl]
 have hs1:an (br res b (.blk vY (oO s n))) s= .store tS eS L:=by rw[bm _ _ _ _ hlb,VM (Ne.symm hne)];exact hs
 have hk1:cT (br res b (.blk vY (oO s n))) k= .arr own 11 (az x):=by unfold cT at hk⊢;rw[bm _ _ _ _ hlb,VM (Ne.symm hnk)];exact hk
 have hrr:br res b (.blk vY (oO s (bg (az x) L n (bI (az x) L n))))=br (br res b (.blk vY (oO s n))) b (.blk vY (oO s (bg (az x) L n (bI (az x) L n)))):=by rw[jl,jl,jl,List.set_set]
 rw[hrr,<-hl1]at hK;generalize br res b (.blk vY (oO s n))=res at *
 have kb:known res b:=by unfold known;rw[hb1];simp
 have ks:known res s:=by unfold known;rw[hs1];simp
 have kk':=eO hk1 (by simp)
 have lb:=aF kb;have ls:=aF ks;have lk:=aF kk'
 have hres:eF (ky 0 (dr [(b,true),(s,true),(k,false)])) res [(b,true),(s,true),(k,false)]= [.blk vY (oO 1 n),.store tS eS L,.ro (.arr own 11 (az x))]:=by
  simp[eF,hb1,hs1,hk1,fZ,oO,e9,dU,ky,idxOf,dr,hne,Ne.symm hne,hnk,Ne.symm hnk,hsk,Ne.symm hsk]
 refine aj.frame (pl:= [(b,true),(s,true),(k,false)]) (args0:= [.lp 0 0,.sa 2]) (K0:=TJ (bg (az x) L n (bI (az x) L n)) (bN (az x) L n (bI (az x) L n)) (bI (az x) L n) (At (az x) L n) (.it .i64 (fY (az x) L n))) (KP0:=fun _ _=>False)
  (by simp[eE,cx.2 kb,cx.2 ks,cx.2 kk']) (by simp[iT,dr,pw,lb,ls,lk,hne,Ne.symm hne,hnk,Ne.symm hnk,hsk,Ne.symm hsk]) ?_ ?_ (fun v r hv=>?_) (fun _ _ h=>h.elim)
 ·simp[dU,e9,ky,idxOf,dr,hnk,Ne.symm hnk,hsk,Ne.symm hsk]
 ·rw[hres];exact aj.Py (h x L n hq)
 ·obtain⟨p,bs,rfl,h2,hp,hrp,h0,h1⟩:=Of hv;have hpl:p<r.length:=aF (by rw[hrp];simp)
  have hm:merge [(b,true),(s,true),(k,false)] [p] r res=br (br res b (.blk vY (oO s (bg (az x) L n (bI (az x) L n))))) s (.store tS eS (bN (az x) L n (bI (az x) L n)))++ [.arr (some RH) 24 (.fn (nA (bI (az x) L n)) (At (az x) L n))]:=by
   simp[merge,fj,h0,h1,hrp,fZ,gq,oO,e9,dU,back,wz]
  refine⟨[p],.tp [.sa res.length,.it .i64 (fY (az x) L n)],by simpa[iT,pw]using⟨hp,hpl⟩,by simp[lP,h0,h1,iR],by simp[nL,hrp,iR],HV ?_ rfl h2,by rw[hm];exact hK⟩
  unfold back;rw[tP _ _ (by simpa using hp)]
  simp[idxOf]
theorem Bj {L:List Obj} {i:Int} {o:Obj} (hL:ar L):ar (bO L i o):=by
 unfold bO;split
 ·rename_i h;rcases Di o (aq L:Int)with⟨_,h2⟩|⟨h1,_⟩
  ·exact jj hL h2
  ·rw[h.2]at h1;simp at h1
 ·exact hL
theorem Nw {n:Int} (h:dW n=true):ar (jv n):=by
 unfold dW at h;simp only[VG,VH]at h;have hl:(jv n).length=n.toNat:=by simp[jv]
 have key:∀k:Fin 65,1<=k.val->bq free (k.val:Int)=true:=by decide+kernel
 refine fL.2 ⟨by omega,by omega,fun i hi=>?_⟩
 have e:ak (jv n) i free=free:=by
  unfold ak jv;rw[VL,List.getElem?_replicate];split<;>rfl
 rw[e,hl];exact key ⟨n.toNat,by omega⟩ (by simp only;omega)
theorem MT {n:Int} (h:dW n=true):ar (ai n):=Bj (Bj (Nw h))
end Go.Sx
