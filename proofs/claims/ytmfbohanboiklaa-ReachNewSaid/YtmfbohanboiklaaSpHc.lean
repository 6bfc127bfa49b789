import Derived.Test.YtmfbohanboiklaaSpHb
set_option linter.unusedSimpArgs false
set_option linter.unusedVariables false
set_option maxRecDepth 100000
namespace Go.Sx
def MJ (l:TL):Option (List Cp):=
 match l with
 | .qs n l=>if n==5 then some l else none
 |_=>none
theorem JR:∀l x,MJ l=some x->l=TL.qs 5 x:=fun l x h=>by
 unfold MJ at h;split at h
 ·split at h
  ·rename_i hn;have hn:=N5.1 hn;subst hn;simp only[N1]at h;subst h;rfl
  ·simp at h
 ·simp at h
def KJ:Arg (List Cp):=Lm 5 MJ (TL.qs 5)
theorem py:kR KJ:=CQ JR
def eD (l:List Cp):Prop:=∀x∈l,x.length=5
def cm (l:List Cp):Prop:=eD l/\l.length<=1000000
def gB (L:List Obj) (oid:Int):Bool:=decide (aC L oid=0)
def yH (R:List Obj->Int->List Cp):pd:=LM (bR (JF tS eS) (bR iA ji)) (fun x=>Ev x.1) (fun x=>gB (FK x.1) x.2.1) (fun x=> .tp [Ny,.it .i64 (aC (FK x.1) x.2.1)]) (fun _ n=> .tp [.sa n,.ci .i64 0]) fun x=> .arr (some qH) 5 (.qs 5 (R (FK x.1) x.2.1))
def Ip:pd:=yH ah
def GO:Ct:=H6 (bR Ba ji) (fun _=>none) fun x=> .key (qG x.1)
def Ks:Ct:=H6 (bR kA (bR kA ji)) (fun _=>none) fun x=> .it .i64 (eQ x.1 x.2.1)
def GZ:Ct:=H6 (bR KJ (bR Ba ji)) (fun x=>some (cm x.1)) fun x=> .bo (fb x.1 (bd (qG x.2.1)))
def vd (l:List Cp) (c:Cp) (g:Int):Prop:=0<=g/\g<=(aa l:Int)/\∀j:Nat,(j:Int)<g->cw l j≠c
def tw (l:List Cp):Prop:=l.Nodup/\(∀x∈l,x.length=5)/\l.length<=8192
def EK:Ct:=B2 (bR KJ ji) (fun x=>some (tw x.1)) (fun _ n=> .sa n) fun x _=> [.arr (some qH) 5 (.qs 5 (ia x.1))]
def aR (l:List Cp) (g:Int):List Cp:=ia (l.take g.toNat)
def vZ (l:List Cp) (g:Int):Prop:=0<=g/\g<=(aa l:Int)/\tw l
def ry (l m:List Cp) (i g:Int):Prop:=0<=g/\g<=(aa m:Int)/\∀j:Nat,(j:Int)<g->eU (cw m j) (cw l i.toNat)=true
def qY (l m:List Cp) (g:Int):Prop:=0<=g/\g<=(aa l:Int)/\aa l=aa m/\∀j:Nat,(j:Int)<g->cw l j=cw m j
def ku (l m:List Cp):Bool:=decide (l=m)
def H7:Ct:=H6 (bR KJ (bR KJ ji)) (fun x=>some (cm x.1/\cm x.2.1)) fun x=> .bo (ku x.1 x.2.1)
def MM (U:St) (t:Nat):Int:=
 match aO U.slots t with
 | .v x=>match x with
   | .it _ n=>n
   | .ci _ n=>n
   |_=>0
 |_=>0
def ED (U:St) (t:Nat):List Cp:=
 match aO U.slots t with
 | .v x=>match x with
   | .sa j=>match br U.res j with
     | .arr _ _ l=>match l with
       | .qs _ q=>q
       |_=> []
     |_=> []
   |_=> []
 |_=> []
def MB (eZ:List Nat):bx:=
 {γ:=Int,head:=fun U g=> {U with slots:=z7 eZ [(5,.it .i64 g)] 0 U.slots},inv:=fun _=>True,pin:=some fun U g=>ry (ED U 0) (ED U 3) (MM U 4) g,μ:=fun g=>gm (lu 8200 g)}
theorem C7 (l:List Cp) (j:Nat):(Key.mk (aT l j 0) (aT l j 1) (aT l j 2) (aT l j 3) (aT l j 4) 0:Key)=bc (cw l j):=rfl
theorem at_mem {l:List Cp} {j:Nat} (h:j<l.length):cw l j∈l/\l[j]? =some (cw l j):=by
 unfold cw ay;rw[N8,List.getElem?_eq_getElem h];exact⟨List.getElem_mem h,rfl⟩
theorem vg {l:List Cp} {j:Nat} (h5:eD l) (h:j<l.length): [aT l j 0,aT l j 1,aT l j 2,aT l j 3,aT l j 4]=cw l j:=by
 have:=DB (h5 _ (at_mem h).1);rw[<-C7]at this;exact this
theorem JG {l:List Cp} {j:Nat} (h5:eD l) (h:j<l.length) (k:Key):(decide (aT l j 0=k.kind)&&(decide (aT l j 1=k.oid)&&(decide (aT l j 2=k.count)&&(decide (aT l j 3=k.call)&&(decide (aT l j 4=k.rights)&&true)))))=decide (cw l j=bd k):=by
 rw[<-vg h5 h];unfold bd;rw[Bool.eq_iff_iff];simp only[N3,N4,List.cons.injEq,and_true]
theorem K3 {l m:List Cp} {j:Nat} (h5:eD l) (k5:eD m) (h:j<l.length) (k:j<m.length):(decide (aT l j 0=aT m j 0)&&(decide (aT l j 1=aT m j 1)&&(decide (aT l j 2=aT m j 2)&&(decide (aT l j 3=aT m j 3)&&(decide (aT l j 4=aT m j 4)&&true)))))=decide (cw l j=cw m j):=by
 rw[<-vg h5 h,<-vg k5 k,Bool.eq_iff_iff];simp only[N3,N4,List.cons.injEq,and_true]
theorem xJ (p:Cp->Bool):∀(m:List Cp) (n:Nat),(∀j,j<n->∀h:j<m.length,p (m[j]'h)=true)->n<=m.length->(∀h:n<m.length,p (m[n]'h)=false)->m.takeWhile p=m.take n/\m.dropWhile p=m.drop n
 | [],n,_,hn,_=>by simp
 |x::m,0,_,_,h0=>by
  have:=h0 (by simp)
  simp at this;simp[this]
 |x::m,n+1,h,hn,h0=>by
  have hx:p x=true:=h 0 (by omega) (by simp)
  obtain⟨a,b⟩:=xJ p m n (fun j hj hh=>h (j+1) (by omega) (by simpa using hh)) (by simpa using hn) fun hh=>h0 (by simpa using hh)
  simp[hx,a,b]
theorem B3 {l:List Cp} {g:Int} (h0:0<=g) (h1:g<(l.length:Int)):aR l (g+1)=rz (aR l g) (cw l g.toNat):=by
 unfold aR;rw[show(g+1).toNat=g.toNat+1 by omega,List.take_add_one,(at_mem (l:=l) (j:=g.toNat) (by omega)).2]
 unfold ia;rw[List.foldl_append];rfl
theorem BI {l:List Cp} (h:tw l) (g:Int):(aR l g).length<=8192/\eD (aR l g):=by
 have h5:∀x∈l.take g.toNat,x.length=5:=fun x hx=>h.2.1 x (List.mem_of_mem_take hx)
 have hn:(l.take g.toNat).Nodup:=h.1.sublist (List.take_sublist _ _);have hp:=(fx h5 hn).2;refine⟨?_,fun x hx=>h5 x (hp.mem_iff.1 hx)⟩
 have:=hp.length_eq;unfold aR;rw[this,List.length_take];have:=h.2.2;omega
theorem Jv {m:List Cp} {c:Cp} {g:Int} (h0:0<=g) (h1:g<=(m.length:Int)) (ha:∀j:Nat,(j:Int)<g->eU (cw m j) c=true) (hb:g<(m.length:Int)->eU (cw m g.toNat) c=false):
  dw (bg (gC m 0 g.toNat) c) (gC m g.toNat m.length)=rz m c:=by
 have e:∀j (hj:j<m.length),m[j]=cw m j:=fun j hj=>by
  have:=(at_mem hj).2;rw[List.getElem?_eq_getElem hj]at this;exact Option.some.inj this
 obtain⟨a,b⟩:=xJ (fun x=>eU x c) m g.toNat (fun j hj hh=>by rw[e j hh];exact ha j (by omega)) (by omega) (fun hh=>by rw[e _ hh];exact hb (by omega))
 unfold rz dw bg gC;rw[a,b,List.drop_zero,List.take_of_length_le (l:=m.drop g.toNat) (by simp)]
 simp
end Go.Sx
