import Derived.Test.YtlblcfaclmpekaaGreatSpMn
set_option linter.unusedSimpArgs false
set_option linter.unusedVariables false
set_option maxRecDepth 100000
namespace Go.Sx
def lB (x:List ke) (ks:List Key) (g:Int×Int×List Obj×List Bool):Prop:=0<=g.1/\g.1<=(ak x:Int)/\gH g.2.1/\aq g.2.2.1/\g.2.2.2.length=ks.length/\∀i,i<ks.length->ai g.2.2.2 i false=true->pX g.2.2.1 (ai ks i void)
def mZ (x:List ke) (g:Int×Int×List Obj×List Bool):Nat:=ak x-g.1.toNat
def iW (ks:List Key) (t:Int×List Bool×Int×List Obj×List Obj):Prop:=0<=t.1/\t.1<=(ak ks:Int)/\t.2.1.length=ks.length/\gH t.2.2.1/\aq t.2.2.2.1/\aq t.2.2.2.2/\AF t.2.2.2.1 t.2.2.2.2/\∀i,i<ks.length->ai t.2.1 i false=true->(if(i:Int)<t.1 then pX t.2.2.2.2 (ai ks i void)else pX t.2.2.2.1 (ai ks i void))
def ui (ks:List Key) (t:Int×List Bool×Int×List Obj×List Obj):Nat:=ak ks-t.1.toNat
def gR (x:List ke) (g:Int×Int×List Obj×List Bool):List Obj:=er g.snd.snd.fst g.snd.fst (ai x g.fst.toNat nL)
def C9 (x:List ke) (g:Int×Int×List Obj×List Bool):Int:=me g.snd.fst (ai x g.fst.toNat nL)
def dJ (x:List ke) (g:Int×Int×List Obj×List Bool):Dn:=aJ g.snd.snd.fst g.snd.fst (ai x g.fst.toNat nL)
def Hu (x:List ke) (g:Int×Int×List Obj×List Bool):Int:=mz g.snd.fst (ai x g.fst.toNat nL)
def Vi (ks:List Key) (t:Int×List Bool×Int×List Obj×List Obj):Bool:=ai t.snd.fst t.fst.toNat false||aI t.snd.snd.snd.fst (ai ks t.fst.toNat void)&& !aI t.snd.snd.snd.snd (ai ks t.fst.toNat void)
def Hs (ks:List Key) (t:Int×List Bool×Int×List Obj×List Obj):List Bool:=bX t.snd.fst t.fst.toNat (Vi ks t)
theorem FB {ks:List Key} {t:Int×List Bool×Int×List Obj×List Obj}:(Hs ks t).length=t.2.1.length:=by simp[Hs,bX]
theorem NN {ks:List Key} {t:Int×List Bool×Int×List Obj×List Obj} (ht:iW ks t) (hlt:t.1<(ks.length:Int)):
  (ai (Hs ks t) t.1.toNat false&&aI t.2.2.2.2 (ai ks t.1.toNat void))=false/\iW ks (t.1+1,Hs ks t,t.2.2.1,t.2.2.2.1,t.2.2.2.2):=by
 obtain⟨t0,t1,t2,tn,t3,t4,t5,t6⟩:=ht;have hn:t.1.toNat<ks.length:=by omega
 have key:Vi ks t=true->pX t.2.2.2.2 (ai ks t.1.toNat void):=fun h=>by
  unfold Vi at h;rw[Bool.or_eq_true,Xo,Bool.not_eq_true']at h;rcases h with h|⟨h,h'⟩
  ·have:=t6 _ hn h;rw[Xu (by omega)]at this
   exact Jo t5 this
  ·exact Ir t5 h h'
 unfold Hs;refine⟨?_,by simp only;omega,by simp only[ak];omega,?_,tn,t3,t4,t5,fun i hi hd=>?_⟩
 ·rw[vU (by omega),Xv rfl]
  generalize Vi ks t=v at *
  cases v with
  |false=>rfl
  |true=>rw[GP (key rfl)];rfl
 ·simp only[bX,List.length_set];exact t2
 ·simp only at hd⊢;rw[vU (by omega)]at hd
  by_cases e:i=t.1.toNat
  ·rw[Xv e]at hd;rw[Xv (by omega),e]
   exact key hd
  ·rw[Xu e]at hd;have:=t6 i hi hd;by_cases hlt':(i:Int)<t.1
   ·rw[Xv hlt']at this;rw[Xv (by omega)];exact this
   ·rw[Xu hlt']at this;rw[Xu (by omega)];exact this
theorem OC {L:List Obj} {n:Int} {p:ke} (h:(!decide (mz n p=0)||decide ((aJ L n p).out=3)||decide ((aJ L n p).out=1))=true):er L n p=L:=by
 unfold er;split
 ·rename_i hc;obtain⟨hr,hk,hz⟩:=hc;have e0:mz n p=0:=by unfold mz;rw[Xv hr]
  have eD:aJ L n p=if sk L p=true then(if b8 L (du L p) (b9 L p) p.mode (cz L p)=0 then⟨2,du L p,0,dS,false⟩else⟨3,du L p,b8 L (du L p) (b9 L p) p.mode (cz L p),dS,false⟩)
    else⟨4,du L p,0,bu L n (b9 L p) (cz L p),ij L n (b9 L p) (cz L p)⟩:=by unfold aJ;rw[Xv hr,Xu hk,Xu hz]
  rw[e0,eD]at h;by_cases hC:sk L p=true
  ·rw[Xv hC]at h⊢;unfold eN;split
   ·rename_i hE;rw[Xv hE]at h;simp at h
   ·rfl
  ·rw[Xu hC]at h;simp at h
 ·rfl
theorem Jt {L:List Obj} {n:Int} {p:ke} (hL:aq L) {j:Nat} (hj:j<L.length):(decide ((ai (er L n p) j free).count<(ai L j free).count)||decide ((ai L j free).kind=3)&& !vk (ai (er L n p) j free) (ai L j free)||
  decide ((ai (er L n p) j free).count=(ai L j free).count)&&decide ((ai (er L n p) j free).kind=1)&&decide ((ai L j free).kind=1)&&decide ((ai (er L n p) j free).calls<(ai L j free).calls))=false:=by
 have hs:=Fq (n:=n) (p:=p) hL;have hM:aq (er L n p):=Lz hL;have h1:=cm hL j hj;have h2:=cm hM j (by rw[hs.1];exact hj)
 have:=hs.2 j hj;unfold UI at this
 have e3:(ai L j free).kind=3->vk (ai (er L n p) j free) (ai L j free)=true:=fun h3=>by
  rw[MG h2 h1 (by omega) (by omega) (by omega)]
  exact pR _
 simp only[Bool.or_eq_false_iff,Bool.and_eq_false_iff,decide_eq_false_iff_not,Bool.not_eq_false'];refine⟨⟨by omega,?_⟩,by omega⟩
 by_cases h3:(ai L j free).kind=3
 ·exact .inr (e3 h3)
 ·exact .inl h3
end Go.Sx
