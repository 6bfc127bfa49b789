import Derived.Test.YtmfbohanboiklaaSpHb
set_option linter.unusedSimpArgs false
set_option linter.unusedVariables false
set_option maxRecDepth 100000
namespace Go.Sx
def LD (l:TL):Option (List Cp):=
 match l with
 | .qs n l=>if n==5 then some l else none
 |_=>none
theorem Iw:∀l x,LD l=some x->l=TL.qs 5 x:=fun l x h=>by
 unfold LD at h;split at h
 ·split at h
  ·rename_i hn;have hn:=Mw.1 hn;subst hn;simp only[Ms]at h;subst h;rfl
  ·simp at h
 ·simp at h
def Ky:Arg (List Cp):=KI 5 LD (TL.qs 5)
theorem uT:kD Ky:=Iu Iw
def eF (l:List Cp):Prop:=∀x∈l,x.length=5
def dI (l:List Cp):Prop:=eF l/\l.length<=1000000
def dX (L:List Obj) (oid:Int):Bool:=decide (aE L oid=0)
def xw (R:List Obj->Int->List Cp):pn:=KH (cH (J4 tS eS) (cH iA kB)) (fun x=>zu x.1) (fun x=>dX (K5 x.1) x.2.1) (fun x=> .tp [Ml,.it .i64 (aE (K5 x.1) x.2.1)]) (fun _ n=> .tp [.sa n,.ci .i64 0]) fun x=> .arr (some vm) 5 (.qs 5 (R (K5 x.1) x.2.1))
def GW:pn:=xw dq
def Fe:Ct:=Ia (cH Cd kB) (fun _=>none) fun x=> .key (uN x.1)
def HZ:Ct:=Ia (cH kA (cH kA kB)) (fun _=>none) fun x=> .it .i64 (eD x.1 x.2.1)
def Fg:Ct:=Ia (cH Ky (cH Cd kB)) (fun x=>some (dI x.1)) fun x=> .bo (eH x.1 (a8 (uN x.2.1)))
def u9 (l:List Cp) (c:Cp) (g:Int):Prop:=0<=g/\g<=(ae l:Int)/\∀j:Nat,(j:Int)<g->di l j≠c
def ru (l:List Cp):Prop:=l.Nodup/\(∀x∈l,x.length=5)/\l.length<=8192
def Et:Ct:=CU (cH Ky kB) (fun x=>some (ru x.1)) (fun _ n=> .sa n) fun x _=> [.arr (some vm) 5 (.qs 5 (ib x.1))]
def aM (l:List Cp) (g:Int):List Cp:=ib (l.take g.toNat)
def vl (l:List Cp) (g:Int):Prop:=0<=g/\g<=(ae l:Int)/\ru l
def qw (l m:List Cp) (i g:Int):Prop:=0<=g/\g<=(ae m:Int)/\∀j:Nat,(j:Int)<g->eE (di m j) (di l i.toNat)=true
def p5 (l m:List Cp) (g:Int):Prop:=0<=g/\g<=(ae l:Int)/\ae l=ae m/\∀j:Nat,(j:Int)<g->di l j=di m j
def jH (l m:List Cp):Bool:=decide (l=m)
def GC:Ct:=Ia (cH Ky (cH Ky kB)) (fun x=>some (dI x.1/\dI x.2.1)) fun x=> .bo (jH x.1 x.2.1)
def Lb (U:St) (t:Nat):Int:=
 match aJ U.slots t with
 | .v x=>match x with
   | .it _ n=>n
   | .ci _ n=>n
   |_=>0
 |_=>0
def Ci (U:St) (t:Nat):List Cp:=
 match aJ U.slots t with
 | .v x=>match x with
   | .sa j=>match bk U.res j with
     | .arr _ _ l=>match l with
       | .qs _ q=>q
       |_=> []
     |_=> []
   |_=> []
 |_=> []
def LA (fY:List Nat):bC:=
 {γ:=Int,head:=fun U g=> {U with slots:=CO fY [(5,.it .i64 g)] 0 U.slots},inv:=fun _=>True,pin:=some fun U g=>qw (Ci U 0) (Ci U 3) (Lb U 4) g,μ:=fun g=>gg (n9 8200 g)}
theorem Ek (l:List Cp) (j:Nat):(Key.mk (bc l j 0) (bc l j 1) (bc l j 2) (bc l j 3) (bc l j 4) 0:Key)=cq (di l j):=rfl
theorem at_mem {l:List Cp} {j:Nat} (h:j<l.length):di l j∈l/\l[j]? =some (di l j):=by
 unfold di ay;rw[Mz,List.getElem?_eq_getElem h];exact⟨List.getElem_mem h,rfl⟩
theorem vf {l:List Cp} {j:Nat} (h5:eF l) (h:j<l.length): [bc l j 0,bc l j 1,bc l j 2,bc l j 3,bc l j 4]=di l j:=by
 have:=CR (h5 _ (at_mem h).1);rw[<-Ek]at this;exact this
theorem HV {l:List Cp} {j:Nat} (h5:eF l) (h:j<l.length) (k:Key):(decide (bc l j 0=k.kind)&&(decide (bc l j 1=k.oid)&&(decide (bc l j 2=k.count)&&(decide (bc l j 3=k.call)&&(decide (bc l j 4=k.rights)&&true)))))=decide (di l j=a8 k):=by
 rw[<-vf h5 h];unfold a8;rw[Bool.eq_iff_iff];simp only[Mu,Mv,List.cons.injEq,and_true]
theorem Kc {l m:List Cp} {j:Nat} (h5:eF l) (k5:eF m) (h:j<l.length) (k:j<m.length):(decide (bc l j 0=bc m j 0)&&(decide (bc l j 1=bc m j 1)&&(decide (bc l j 2=bc m j 2)&&(decide (bc l j 3=bc m j 3)&&(decide (bc l j 4=bc m j 4)&&true)))))=decide (di l j=di m j):=by
 rw[<-vf h5 h,<-vf k5 k,Bool.eq_iff_iff];simp only[Mu,Mv,List.cons.injEq,and_true]
theorem vS (p:Cp->Bool):∀(m:List Cp) (n:Nat),(∀j,j<n->∀h:j<m.length,p (m[j]'h)=true)->n<=m.length->(∀h:n<m.length,p (m[n]'h)=false)->m.takeWhile p=m.take n/\m.dropWhile p=m.drop n
 | [],n,_,hn,_=>by simp
 |x::m,0,_,_,h0=>by
  have:=h0 (by simp)
  simp at this;simp[this]
 |x::m,n+1,h,hn,h0=>by
  have hx:p x=true:=h 0 (by omega) (by simp)
  obtain⟨a,b⟩:=vS p m n (fun j hj hh=>h (j+1) (by omega) (by simpa using hh)) (by simpa using hn) fun hh=>h0 (by simpa using hh)
  simp[hx,a,b]
theorem A6 {l:List Cp} {g:Int} (h0:0<=g) (h1:g<(l.length:Int)):aM l (g+1)=qM (aM l g) (di l g.toNat):=by
 unfold aM;rw[show(g+1).toNat=g.toNat+1 by omega,List.take_add_one,(at_mem (l:=l) (j:=g.toNat) (by omega)).2]
 unfold ib;rw[List.foldl_append];rfl
theorem Be {l:List Cp} (h:ru l) (g:Int):(aM l g).length<=8192/\eF (aM l g):=by
 have h5:∀x∈l.take g.toNat,x.length=5:=fun x hx=>h.2.1 x (List.mem_of_mem_take hx)
 have hn:(l.take g.toNat).Nodup:=h.1.sublist (List.take_sublist _ _);have hp:=(gE h5 hn).2;refine⟨?_,fun x hx=>h5 x (hp.mem_iff.1 hx)⟩
 have:=hp.length_eq;unfold aM;rw[this,List.length_take];have:=h.2.2;omega
theorem IM {m:List Cp} {c:Cp} {g:Int} (h0:0<=g) (h1:g<=(m.length:Int)) (ha:∀j:Nat,(j:Int)<g->eE (di m j) c=true) (hb:g<(m.length:Int)->eE (di m g.toNat) c=false):
  rB (bj (gf m 0 g.toNat) c) (gf m g.toNat m.length)=qM m c:=by
 have e:∀j (hj:j<m.length),m[j]=di m j:=fun j hj=>by
  have:=(at_mem hj).2;rw[List.getElem?_eq_getElem hj]at this;exact Option.some.inj this
 obtain⟨a,b⟩:=vS (fun x=>eE x c) m g.toNat (fun j hj hh=>by rw[e j hh];exact ha j (by omega)) (by omega) (fun hh=>by rw[e _ hh];exact hb (by omega))
 unfold qM rB bj gf;rw[a,b,List.drop_zero,List.take_of_length_le (l:=m.drop g.toNat) (by simp)]
 simp
end Go.Sx
