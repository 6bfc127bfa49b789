import Derived.Test.YtmfbohanboiklaaSpHb
set_option linter.unusedSimpArgs false
set_option linter.unusedVariables false
set_option maxRecDepth 100000
namespace Go.Sx
def LU (l:TL):Option (List Cp):=
 match l with
 | .qs n l=>if n==5 then some l else none
 |_=>none
theorem Jt:∀l x,LU l=some x->l=TL.qs 5 x:=fun l x h=>by
 unfold LU at h;split at h
 ·split at h
  ·rename_i hn;have hn:=Na.1 hn;subst hn;simp only[M6]at h;subst h;rfl
  ·simp at h
 ·simp at h
def Ks:Arg (List Cp):=LH 5 LU (TL.qs 5)
theorem u9:kK Ks:=Io Jt
def eJ (l:List Cp):Prop:=∀x∈l,x.length=5
def dF (l:List Cp):Prop:=eJ l/\l.length<=1000000
def dp (L:List Obj) (oid:Int):Bool:=decide (aC L oid=0)
def yT (R:List Obj->Int->List Cp):pU:=LF (cD (Kx tS eS) (cD iA ku)) (fun x=>xp x.1) (fun x=>dp (Lu x.1) x.2.1) (fun x=> .tp [MY,.it .i64 (aC (Lu x.1) x.2.1)]) (fun _ n=> .tp [.sa n,.ci .i64 0]) fun x=> .arr (some u7) 5 (.qs 5 (R (Lu x.1) x.2.1))
def HS:pU:=yT dt
def Fv:Ct:=HK (cD Ep ku) (fun _=>none) fun x=> .key (vj x.1)
def JA:Ct:=HK (cD kA (cD kA ku)) (fun _=>none) fun x=> .it .i64 (eH x.1 x.2.1)
def FM:Ct:=HK (cD Ks (cD Ep ku)) (fun x=>some (dF x.1)) fun x=> .bo (eN x.1 (bd (vj x.2.1)))
def va (l:List Cp) (c:Cp) (g:Int):Prop:=0<=g/\g<=(aa l:Int)/\∀j:Nat,(j:Int)<g->cT l j≠c
def sO (l:List Cp):Prop:=l.Nodup/\(∀x∈l,x.length=5)/\l.length<=8192
def Dd:Ct:=CG (cD Ks ku) (fun x=>some (sO x.1)) (fun _ n=> .sa n) fun x _=> [.arr (some u7) 5 (.qs 5 (gX x.1))]
def aO (l:List Cp) (g:Int):List Cp:=gX (l.take g.toNat)
def vo (l:List Cp) (g:Int):Prop:=0<=g/\g<=(aa l:Int)/\sO l
def qz (l m:List Cp) (i g:Int):Prop:=0<=g/\g<=(aa m:Int)/\∀j:Nat,(j:Int)<g->eK (cT m j) (cT l i.toNat)=true
def qE (l m:List Cp) (g:Int):Prop:=0<=g/\g<=(aa l:Int)/\aa l=aa m/\∀j:Nat,(j:Int)<g->cT l j=cT m j
def kb (l m:List Cp):Bool:=decide (l=m)
def G9:Ct:=HK (cD Ks (cD Ks ku)) (fun x=>some (dF x.1/\dF x.2.1)) fun x=> .bo (kb x.1 x.2.1)
def Mp (U:St) (t:Nat):Int:=
 match aJ U.slots t with
 | .v x=>match x with
   | .it _ n=>n
   | .ci _ n=>n
   |_=>0
 |_=>0
def Er (U:St) (t:Nat):List Cp:=
 match aJ U.slots t with
 | .v x=>match x with
   | .sa j=>match bn U.res j with
     | .arr _ _ l=>match l with
       | .qs _ q=>q
       |_=> []
     |_=> []
   |_=> []
 |_=> []
def Mt (gd:List Nat):bD:=
 {γ:=Int,head:=fun U g=> {U with slots:=DO gd [(5,.it .i64 g)] 0 U.slots},inv:=fun _=>True,pin:=some fun U g=>qz (Er U 0) (Er U 3) (Mp U 4) g,μ:=fun g=>gm (nD 8200 g)}
theorem D1 (l:List Cp) (j:Nat):(Key.mk (aN l j 0) (aN l j 1) (aN l j 2) (aN l j 3) (aN l j 4) 0:Key)=bX (cT l j):=rfl
theorem at_mem {l:List Cp} {j:Nat} (h:j<l.length):cT l j∈l/\l[j]? =some (cT l j):=by
 unfold cT au;rw[Nd,List.getElem?_eq_getElem h];exact⟨List.getElem_mem h,rfl⟩
theorem uR {l:List Cp} {j:Nat} (h5:eJ l) (h:j<l.length): [aN l j 0,aN l j 1,aN l j 2,aN l j 3,aN l j 4]=cT l j:=by
 have:=DY (h5 _ (at_mem h).1);rw[<-D1]at this;exact this
theorem Ji {l:List Cp} {j:Nat} (h5:eJ l) (h:j<l.length) (k:Key):(decide (aN l j 0=k.kind)&&(decide (aN l j 1=k.oid)&&(decide (aN l j 2=k.count)&&(decide (aN l j 3=k.call)&&(decide (aN l j 4=k.rights)&&true)))))=decide (cT l j=bd k):=by
 rw[<-uR h5 h];unfold bd;rw[Bool.eq_iff_iff];simp only[M8,M9,List.cons.injEq,and_true]
theorem KX {l m:List Cp} {j:Nat} (h5:eJ l) (k5:eJ m) (h:j<l.length) (k:j<m.length):(decide (aN l j 0=aN m j 0)&&(decide (aN l j 1=aN m j 1)&&(decide (aN l j 2=aN m j 2)&&(decide (aN l j 3=aN m j 3)&&(decide (aN l j 4=aN m j 4)&&true)))))=decide (cT l j=cT m j):=by
 rw[<-uR h5 h,<-uR k5 k,Bool.eq_iff_iff];simp only[M8,M9,List.cons.injEq,and_true]
theorem xD (p:Cp->Bool):∀(m:List Cp) (n:Nat),(∀j,j<n->∀h:j<m.length,p (m[j]'h)=true)->n<=m.length->(∀h:n<m.length,p (m[n]'h)=false)->m.takeWhile p=m.take n/\m.dropWhile p=m.drop n
 | [],n,_,hn,_=>by simp
 |x::m,0,_,_,h0=>by
  have:=h0 (by simp)
  simp at this;simp[this]
 |x::m,n+1,h,hn,h0=>by
  have hx:p x=true:=h 0 (by omega) (by simp)
  obtain⟨a,b⟩:=xD p m n (fun j hj hh=>h (j+1) (by omega) (by simpa using hh)) (by simpa using hn) fun hh=>h0 (by simpa using hh)
  simp[hx,a,b]
theorem Bb {l:List Cp} {g:Int} (h0:0<=g) (h1:g<(l.length:Int)):aO l (g+1)=rF (aO l g) (cT l g.toNat):=by
 unfold aO;rw[show(g+1).toNat=g.toNat+1 by omega,List.take_add_one,(at_mem (l:=l) (j:=g.toNat) (by omega)).2]
 unfold gX;rw[List.foldl_append];rfl
theorem BF {l:List Cp} (h:sO l) (g:Int):(aO l g).length<=8192/\eJ (aO l g):=by
 have h5:∀x∈l.take g.toNat,x.length=5:=fun x hx=>h.2.1 x (List.mem_of_mem_take hx)
 have hn:(l.take g.toNat).Nodup:=h.1.sublist (List.take_sublist _ _);have hp:=(fR h5 hn).2;refine⟨?_,fun x hx=>h5 x (hp.mem_iff.1 hx)⟩
 have:=hp.length_eq;unfold aO;rw[this,List.length_take];have:=h.2.2;omega
theorem Iy {m:List Cp} {c:Cp} {g:Int} (h0:0<=g) (h1:g<=(m.length:Int)) (ha:∀j:Nat,(j:Int)<g->eK (cT m j) c=true) (hb:g<(m.length:Int)->eK (cT m g.toNat) c=false):
  sM (ba (gu m 0 g.toNat) c) (gu m g.toNat m.length)=rF m c:=by
 have e:∀j (hj:j<m.length),m[j]=cT m j:=fun j hj=>by
  have:=(at_mem hj).2;rw[List.getElem?_eq_getElem hj]at this;exact Option.some.inj this
 obtain⟨a,b⟩:=xD (fun x=>eK x c) m g.toNat (fun j hj hh=>by rw[e j hh];exact ha j (by omega)) (by omega) (fun hh=>by rw[e _ hh];exact hb (by omega))
 unfold rF sM ba gu;rw[a,b,List.drop_zero,List.take_of_length_le (l:=m.drop g.toNat) (by simp)]
 simp
end Go.Sx
