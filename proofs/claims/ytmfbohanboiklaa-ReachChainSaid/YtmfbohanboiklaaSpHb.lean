import Derived.Test.YtmfbohanboiklaaSpHs
set_option linter.unusedSimpArgs false
set_option linter.unusedVariables false
set_option maxRecDepth 100000
namespace Go.Sx
def Is (l:List Gh):bD:= {γ:=Unit,head:=fun U _=>U,inv:=fun _=>True,μ:=fun _=>0,pre:=l}
abbrev Iw:Type:=List (Cp×Int)×Nat
def aE (g:Iw):List Cp:=(g.1.map (·.1)).drop g.2
def eU (L:List Obj) (oid:Int) (g:Iw):Prop:=g.1.map (·.1)=eV L oid g.2/\g.2<=g.1.length/\kp (g.1,aE g) (16+17*(g.2:Int))/\fC L
def iW (g:Iw):Nat:=10000-g.2
def gz (D:List (Cp×Int)) (S:List Nat):List Cp:=S.map fun q=> [cm D q 0,cm D q 1,cm D q 2,cm D q 3,cm D q 4]
def iP (D:List (Cp×Int)) (S:List Nat):Prop:=S.Nodup/\∀q∈S,q<D.length
def pf (S:List Nat):Nat:=1000000-S.length
def Ju (res:List ah) (m:Nat):List (Cp×Int):=
 match ae res m with
 | .ms _ D=>D
 |_=> []
def M4 (gd:List Nat) (c ty m i:Nat):bD:=
 {γ:=List Nat,head:=fun U g=> {U with slots:=DO gd [] 0 U.slots,res:=aI (aI U.res c (.blk ty (.sa U.res.length))) i (.mi m (aa (Ju U.res m)) g)++ [.arr (some u7) 5 (.qs 5 (gz (Ju U.res m) g))]},
  inv:=fun _=>True,pin:=some fun U g=>iP (Ju U.res m) g,μ:=pf,pre:= [.bv c u7 5 (.qs 5 [])],ext:=K8 c,prs:=fun _=> [.bv c u7 5 (.qs 5 [])]}
def xp (o:Option (List Obj)):Prop:=match o with|some L=>fC L|none=>True
def LM (o:Option (List Obj)):Prop:=match o with|some L=>fC L|none=>False
def Ln:Ct:=CG (cD (Kx tS eS) (cD iA ku)) (fun x=>some (LM x.1)) (fun _ n=> .sa n) fun x _=> [.arr (some u7) 5 (.qs 5 (dt (Lu x.1) x.2.1))]
theorem K7 {L:List Obj} (hL:fC L) (oid:Int):eU L oid ((fi L ([],[]) oid false 16).1,0)/\(fi L ([],[]) oid false 16).2=aE ((fi L ([],[]) oid false 16).1,0):=by
 have h1:(fi L ([],[]) oid false 16).1.map (·.1)=eV L oid 0:=by unfold fi;rw[kH];rfl
 have h2:(fi L ([],[]) oid false 16).2=aE ((fi L ([],[]) oid false 16).1,0):=(nF (S:=([],[])) (n:=0) (f:=jj L oid false) rfl (Nat.zero_le _) (16:Int).toNat).1;refine⟨⟨h1,Nat.zero_le _,?_,hL⟩,h2⟩;have h3:=kf (f:=jj L oid false) Az (16:Int).toNat;show kp ((fi L ([],[]) oid false 16).1,aE ((fi L ([],[]) oid false 16).1,0)) _
 rw[<-h2];exact cX h3 (by show(0:Int)+((16:Int).toNat:Int)<=_;omega)
theorem x9 {L:List Obj} {oid:Int} {g:Iw} (h:eU L oid g):g.2<=g.1.length/\g.1.length<=8192/\kp (g.1,aE g) 200000:=by
 obtain⟨h1,h2,h3,h4⟩:=h
 have hl:g.1.length<=8192:=by
  have:=mw (oid:=oid) (mr h4).2 g.2;rw[<-h1]at this;simpa using this
 exact⟨h2,hl,cX h3 (by omega)⟩
theorem HQ {L:List Obj} {oid:Int} {g:Iw} (h:eU L oid g) (hn:¬aE g= []):g.2<g.1.length/\(∀c,aN (aE g) 0 c=au (cT (eV L oid g.2) g.2) c 0)/\cT (eV L oid g.2) g.2∈eV L oid g.2:=by
 have hlt:g.2<g.1.length:=by
  refine Decidable.byContradiction fun hh=>hn ?_
  unfold aE;exact List.drop_eq_nil_of_le (by simp;omega)
 have hlt':g.2<(eV L oid g.2).length:=by rw[<-h.1];simpa using hlt
 refine⟨hlt,fun c=>?_,?_⟩
 ·unfold aN aE cT au;rw[h.1];simp[Nd]
 ·unfold cT au;rw[Nd,List.getElem?_eq_getElem hlt'];exact List.getElem_mem hlt'
theorem of_next {L:List Obj} {oid:Int} {g:Iw} (h:eU L oid g) (hn:¬aE g= []) (T:CS) (hT:T=Dz L (g.1,s6 (aE g)) (bX (cT (eV L oid g.2) g.2))):
  eU L oid (T.1,g.2+1)/\iW (T.1,g.2+1)<iW g/\T.2=aE (T.1,g.2+1):=by
 obtain⟨hlt,_,_⟩:=HQ h hn;obtain⟨b1,b2,b3⟩:=x9 h;obtain⟨h1,h2,h3,h4⟩:=h;have hlt':g.2<(eV L oid g.2).length:=by rw[<-h1];simpa using hlt
 have hk:T.1.map (·.1)=eV L oid (g.2+1):=by
  rw[hT,xt,eV,Ng hlt',h1]
 have hl:T.2=aE (T.1,g.2+1):=by
  rw[hT];refine DP (n:=g.2+1) ?_ hlt;show s6 (aE g)=_
  unfold s6 aE;rw[List.tail_drop]
 have hlen:g.2+1<=T.1.length:=by
  have:=(zo L (g.1.map (·.1)) (bX (cT (eV L oid g.2) g.2))).length_le;have e:=congrArg List.length (xt L (g.1,s6 (aE g)) (bX (cT (eV L oid g.2) g.2)));rw[<-hT,List.length_map]at e;rw[List.length_map]at this;have e:T.1.length=(Ev L (g.1.map (·.1)) (bX (cT (eV L oid g.2) g.2))).length:=e;omega
 refine⟨⟨hk,hlen,?_,h4⟩,?_,hl⟩
 ·have hc:kp (g.1,s6 (aE g)) (16+17*(g.2:Int)):=⟨h3.1,by
   have:=h3.2.1;show((s6 (aE g)).length:Int)<=_
   unfold s6;rw[List.length_tail];have h0:((aE g).length:Int)<=16+17*(g.2:Int):=this;omega,h3.2.2⟩
  have:=Fy (L:=L) (k:=bX (cT (eV L oid g.2) g.2)) hc;rw[<-hT]at this;show kp (T.1,aE (T.1,g.2+1)) _
  rw[<-hl];exact cX this (by show _<=16+17*((g.2+1:Nat):Int);omega)
 ·unfold iW;show 10000-(g.2+1)<10000-g.2
  omega
theorem Jo {D:List (Cp×Int)} (h5:∀x∈D.map (·.1),x.length=5) {q:Nat} (hq:q<D.length): [cm D q 0,cm D q 1,cm D q 2,cm D q 3,cm D q 4]=(D.map (·.1))[q]'(by simpa using hq):=by
 have e:∀c,cm D q c=au ((D.map (·.1))[q]'(by simpa using hq)) c 0:=fun c=>by
  unfold cm au;rw[Nd (l:=D),List.getElem?_eq_getElem hq];simp
 simp only[e];have hl:=h5 _ (List.getElem_mem (by simpa using hq))
 generalize (D.map (·.1))[q]'(by simpa using hq)=x at hl
 exact DY hl
theorem Dp {D:List (Cp×Int)} (h5:∀x∈D.map (·.1),x.length=5) {S:List Nat} (hS:iP D S) (hall:∀q,q<D.length->q∈S):(gz D S).Perm (D.map (·.1)):=by
 have hp:S.Perm (List.range D.length):=(List.perm_ext_iff_of_nodup hS.1 List.nodup_range).2 fun a=>by
  rw[List.mem_range];exact⟨hS.2 a,hall a⟩
 refine(hp.map _).trans ?_
 have:(List.range D.length).map (fun q=> [cm D q 0,cm D q 1,cm D q 2,cm D q 3,cm D q 4])=D.map (·.1):=by
  refine List.ext_getElem (by simp) fun i h1 h2=>?_
  have hi:i<D.length:=by simpa using h2
  rw[List.getElem_map,List.getElem_range];exact Jo h5 hi
 rw[this]
theorem Aa {S:List Nat} {q:Nat}:Fe S q=true↔q∈S:=by unfold Fe;simp
theorem Ar (S:List Nat) (q:Nat):nr (ba S q)=q:=by
 unfold nr ba au;simp[Nd]
theorem Gv {D:List (Cp×Int)} {S:List Nat} {q:Nat} (hS:iP D S) (hD:D.length<=8192) (hq:q<D.length) (hn:Fe S q=false):
  iP D (ba S q)/\pf (ba S q)<pf S/\eh (aa (gz D S)) 40/\IK (aa D) D (ba S q)/\ba (gz D S) [cm D q 0,cm D q 1,cm D q 2,cm D q 3,cm D q 4]=gz D (ba S q):=by
 have hm:q∉S:=fun h=>by rw[Aa.2 h]at hn;simp at hn
 have hl:S.length<=D.length:=by
  have:=sm S (List.range D.length) hS.1 fun x hx=>by rw[List.mem_range];exact hS.2 x hx
  simpa using this
 refine⟨⟨?_,?_⟩,?_,?_,⟨rfl,?_,?_⟩,?_⟩
 ·unfold ba;rw[List.nodup_append];exact⟨hS.1,by simp,fun a ha b hb=>by simp at hb;subst hb;exact fun e=>hm (e▸ha)⟩
 ·intro x hx;unfold ba at hx;rcases List.mem_append.1 hx with hx|hx
  ·exact hS.2 x hx
  ·simp at hx;subst hx;exact hq
 ·unfold pf ba;simp;omega
 ·unfold eh gz aa;simp only[maxLen,List.length_map];omega
 ·unfold aa ba;simp
 ·rw[Ar];exact hq
 ·unfold ba gz;simp
theorem H5 {L:List Obj} {oid:Int} {g:Iw} (h:eU L oid g) (h0:aE g= []) {S:List Nat} (hS:iP g.1 S) (hall:∀q,q<g.1.length->Fe S q=true):vM (gz g.1 S)/\gX (gz g.1 S)=dt L oid:=by
 obtain⟨b1,b2,b3⟩:=x9 h
 have hle:g.1.length<=g.2:=by
  unfold aE at h0;have:=List.drop_eq_nil_iff.1 h0;simpa using this
 have hrc:nk L oid=g.1.map (·.1):=by
  rw[h.1];refine qO (by omega) ?_
  rw[<-h.1];simpa using hle
 have h5:∀x∈g.1.map (·.1),x.length=5:=fun x hx=>(sw (L:=L) (oid:=oid) (n:=g.2) (by rw[<-h.1];exact hx)).2.1
 have hp:=Dp h5 hS fun q hq=>Aa.1 (hall q hq)
 have hn:(g.1.map (·.1)).Nodup:=by rw[h.1];exact gP L oid _
 have h5':∀x∈gz g.1 S,x.length=5:=fun x hx=>h5 x (hp.mem_iff.1 hx)
 have hn':=hp.nodup_iff.2 hn;refine⟨⟨hn',h5',?_⟩,?_⟩
 ·have:=hp.length_eq;rw[this,List.length_map];omega
 ·unfold dt;rw[hrc];exact BI h5' hn' hp
theorem Ll {L:List Obj} {oid:Int} {n:Nat} {c:Cp} (h:c∈eV L oid n) (hk:(bX c).kind=2):I8 (bX c).rights:=by
 have:=nM (sw h).1;rw[hk]at this;exact⟨this.1,by simpa[fK]using this.2⟩
end Go.Sx
