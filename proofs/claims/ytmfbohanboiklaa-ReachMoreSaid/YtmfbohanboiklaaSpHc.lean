import Derived.Test.YtmfbohanboiklaaSpHb
set_option linter.unusedSimpArgs false
set_option linter.unusedVariables false
set_option maxRecDepth 100000
namespace Go.Sx
def Mt (l:TL):Option (List Cp):=
 match l with
 | .qs n l=>if n==5 then some l else none
 |_=>none
theorem I5:∀l x,Mt l=some x->l=TL.qs 5 x:=fun l x h=>by
 unfold Mt at h;split at h
 ·split at h
  ·rename_i hn;have hn:=NR.1 hn;subst hn;simp only[NN]at h;subst h;rfl
  ·simp at h
 ·simp at h
def Kw:Arg (List Cp):=Ma 5 Mt (TL.qs 5)
theorem rL:ll Kw:=JC I5
def eM (l:List Cp):Prop:=∀x∈l,x.length=5
def c9 (l:List Cp):Prop:=eM l/\l.length<=1000000
def cc (L:List Obj) (oid:Int):Bool:=decide (az L oid=0)
def yE (R:List Obj->Int->List Cp):qp:=L7 (cy (KH tS eS) (cy iA j8)) (fun x=>qo x.1) (fun x=>cc (L1 x.1) x.2.1) (fun x=> .tp [Nz,.it .i64 (az (L1 x.1) x.2.1)]) (fun _ n=> .tp [.sa n,.ci .i64 0]) fun x=> .arr (some vq) 5 (.qs 5 (R (L1 x.1) x.2.1))
def Ij:qp:=yE aI
def Hx:Ct:=FT (cy Bc j8) (fun _=>none) fun x=> .key (rX x.1)
def JF:Ct:=FT (cy kA (cy kA j8)) (fun _=>none) fun x=> .it .i64 (eL x.1 x.2.1)
def Hi:Ct:=FT (cy Kw (cy Bc j8)) (fun x=>some (c9 x.1)) fun x=> .bo (eR x.1 (bc (rX x.2.1)))
def vu (l:List Cp) (c:Cp) (g:Int):Prop:=0<=g/\g<=(aa l:Int)/\∀j:Nat,(j:Int)<g->cJ l j≠c
def rM (l:List Cp):Prop:=l.Nodup/\(∀x∈l,x.length=5)/\l.length<=8192
def Em:Ct:=EU (cy Kw j8) (fun x=>some (rM x.1)) (fun _ n=> .sa n) fun x _=> [.arr (some vq) 5 (.qs 5 (gJ x.1))]
def aQ (l:List Cp) (g:Int):List Cp:=gJ (l.take g.toNat)
def vH (l:List Cp) (g:Int):Prop:=0<=g/\g<=(aa l:Int)/\rM l
def rr (l m:List Cp) (i g:Int):Prop:=0<=g/\g<=(aa m:Int)/\∀j:Nat,(j:Int)<g->eP (cJ m j) (cJ l i.toNat)=true
def qI (l m:List Cp) (g:Int):Prop:=0<=g/\g<=(aa l:Int)/\aa l=aa m/\∀j:Nat,(j:Int)<g->cJ l j=cJ m j
def ku (l m:List Cp):Bool:=decide (l=m)
def F3:Ct:=FT (cy Kw (cy Kw j8)) (fun x=>some (c9 x.1/\c9 x.2.1)) fun x=> .bo (ku x.1 x.2.1)
def Na (U:St) (t:Nat):Int:=
 match aN U.slots t with
 | .v x=>match x with
   | .it _ n=>n
   | .ci _ n=>n
   |_=>0
 |_=>0
def E1 (U:St) (t:Nat):List Cp:=
 match aN U.slots t with
 | .v x=>match x with
   | .sa j=>match bp U.res j with
     | .arr _ _ l=>match l with
       | .qs _ q=>q
       |_=> []
     |_=> []
   |_=> []
 |_=> []
def M4 (fF:List Nat):bC:=
 {γ:=Int,head:=fun U g=> {U with slots:=Cs fF [(5,.it .i64 g)] 0 U.slots},inv:=fun _=>True,pin:=some fun U g=>rr (E1 U 0) (E1 U 3) (Na U 4) g,μ:=fun g=>gz (nZ 8200 g)}
theorem Eg (l:List Cp) (j:Nat):(Key.mk (aK l j 0) (aK l j 1) (aK l j 2) (aK l j 3) (aK l j 4) 0:Key)=bP (cJ l j):=rfl
theorem at_mem {l:List Cp} {j:Nat} (h:j<l.length):cJ l j∈l/\l[j]? =some (cJ l j):=by
 unfold cJ aq;rw[NV,List.getElem?_eq_getElem h];exact⟨List.getElem_mem h,rfl⟩
theorem va {l:List Cp} {j:Nat} (h5:eM l) (h:j<l.length): [aK l j 0,aK l j 1,aK l j 2,aK l j 3,aK l j 4]=cJ l j:=by
 have:=Ek (h5 _ (at_mem h).1);rw[<-Eg]at this;exact this
theorem I9 {l:List Cp} {j:Nat} (h5:eM l) (h:j<l.length) (k:Key):(decide (aK l j 0=k.kind)&&(decide (aK l j 1=k.oid)&&(decide (aK l j 2=k.count)&&(decide (aK l j 3=k.call)&&(decide (aK l j 4=k.rights)&&true)))))=decide (cJ l j=bc k):=by
 rw[<-va h5 h];unfold bc;rw[Bool.eq_iff_iff];simp only[NP,NQ,List.cons.injEq,and_true]
theorem La {l m:List Cp} {j:Nat} (h5:eM l) (k5:eM m) (h:j<l.length) (k:j<m.length):(decide (aK l j 0=aK m j 0)&&(decide (aK l j 1=aK m j 1)&&(decide (aK l j 2=aK m j 2)&&(decide (aK l j 3=aK m j 3)&&(decide (aK l j 4=aK m j 4)&&true)))))=decide (cJ l j=cJ m j):=by
 rw[<-va h5 h,<-va k5 k,Bool.eq_iff_iff];simp only[NP,NQ,List.cons.injEq,and_true]
theorem yf (p:Cp->Bool):∀(m:List Cp) (n:Nat),(∀j,j<n->∀h:j<m.length,p (m[j]'h)=true)->n<=m.length->(∀h:n<m.length,p (m[n]'h)=false)->m.takeWhile p=m.take n/\m.dropWhile p=m.drop n
 | [],n,_,hn,_=>by simp
 |x::m,0,_,_,h0=>by
  have:=h0 (by simp)
  simp at this;simp[this]
 |x::m,n+1,h,hn,h0=>by
  have hx:p x=true:=h 0 (by omega) (by simp)
  obtain⟨a,b⟩:=yf p m n (fun j hj hh=>h (j+1) (by omega) (by simpa using hh)) (by simpa using hn) fun hh=>h0 (by simpa using hh)
  simp[hx,a,b]
theorem BW {l:List Cp} {g:Int} (h0:0<=g) (h1:g<(l.length:Int)):aQ l (g+1)=rH (aQ l g) (cJ l g.toNat):=by
 unfold aQ;rw[show(g+1).toNat=g.toNat+1 by omega,List.take_add_one,(at_mem (l:=l) (j:=g.toNat) (by omega)).2]
 unfold gJ;rw[List.foldl_append];rfl
theorem BC {l:List Cp} (h:rM l) (g:Int):(aQ l g).length<=8192/\eM (aQ l g):=by
 have h5:∀x∈l.take g.toNat,x.length=5:=fun x hx=>h.2.1 x (List.mem_of_mem_take hx)
 have hn:(l.take g.toNat).Nodup:=h.1.sublist (List.take_sublist _ _);have hp:=(eF h5 hn).2;refine⟨?_,fun x hx=>h5 x (hp.mem_iff.1 hx)⟩
 have:=hp.length_eq;unfold aQ;rw[this,List.length_take];have:=h.2.2;omega
theorem J0 {m:List Cp} {c:Cp} {g:Int} (h0:0<=g) (h1:g<=(m.length:Int)) (ha:∀j:Nat,(j:Int)<g->eP (cJ m j) c=true) (hb:g<(m.length:Int)->eP (cJ m g.toNat) c=false):
  s9 (bg (gr m 0 g.toNat) c) (gr m g.toNat m.length)=rH m c:=by
 have e:∀j (hj:j<m.length),m[j]=cJ m j:=fun j hj=>by
  have:=(at_mem hj).2;rw[List.getElem?_eq_getElem hj]at this;exact Option.some.inj this
 obtain⟨a,b⟩:=yf (fun x=>eP x c) m g.toNat (fun j hj hh=>by rw[e j hh];exact ha j (by omega)) (by omega) (fun hh=>by rw[e _ hh];exact hb (by omega))
 unfold rH s9 bg gr;rw[a,b,List.drop_zero,List.take_of_length_le (l:=m.drop g.toNat) (by simp)]
 simp
end Go.Sx
