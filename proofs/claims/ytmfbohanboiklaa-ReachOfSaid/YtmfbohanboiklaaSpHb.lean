import Derived.Test.YtmfbohanboiklaaSpHs
set_option linter.unusedSimpArgs false
set_option linter.unusedVariables false
set_option maxRecDepth 100000
namespace Go.Sx
def HY (l:List Gh):bC:= {γ:=Unit,head:=fun U _=>U,inv:=fun _=>True,μ:=fun _=>0,pre:=l}
abbrev H3:Type:=List (Cp×Int)×Nat
def aD (g:H3):List Cp:=(g.1.map (·.1)).drop g.2
def eO (L:List Obj) (oid:Int) (g:H3):Prop:=g.1.map (·.1)=fF L oid g.2/\g.2<=g.1.length/\kc (g.1,aD g) (16+17*(g.2:Int))/\j5 L
def iJ (g:H3):Nat:=10000-g.2
def gq (D:List (Cp×Int)) (S:List Nat):List Cp:=S.map fun q=> [ck D q 0,ck D q 1,ck D q 2,ck D q 3,ck D q 4]
def iG (D:List (Cp×Int)) (S:List Nat):Prop:=S.Nodup/\∀q∈S,q<D.length
def oP (S:List Nat):Nat:=1000000-S.length
def Jh (res:List ah) (m:Nat):List (Cp×Int):=
 match aa res m with
 | .ms _ D=>D
 |_=> []
def Mi (fY:List Nat) (c ty m i:Nat):bC:=
 {γ:=List Nat,head:=fun U g=> {U with slots:=CO fY [] 0 U.slots,res:=aI (aI U.res c (.blk ty (.sa U.res.length))) i (.mi m (ae (Jh U.res m)) g)++ [.arr (some vm) 5 (.qs 5 (gq (Jh U.res m) g))]},
  inv:=fun _=>True,pin:=some fun U g=>iG (Jh U.res m) g,μ:=oP,pre:= [.bv c vm 5 (.qs 5 [])],ext:=Kg c,prs:=fun _=> [.bv c vm 5 (.qs 5 [])]}
def zu (o:Option (List Obj)):Prop:=match o with|some L=>j5 L|none=>True
def LP (o:Option (List Obj)):Prop:=match o with|some L=>j5 L|none=>False
def Kn:Ct:=CU (cH (J4 tS eS) (cH iA kB)) (fun x=>some (LP x.1)) (fun _ n=> .sa n) fun x _=> [.arr (some vm) 5 (.qs 5 (dq (K5 x.1) x.2.1))]
theorem JQ {L:List Obj} (hL:j5 L) (oid:Int):eO L oid ((fa L ([],[]) oid false 16).1,0)/\(fa L ([],[]) oid false 16).2=aD ((fa L ([],[]) oid false 16).1,0):=by
 have h1:(fa L ([],[]) oid false 16).1.map (·.1)=fF L oid 0:=by unfold fa;rw[lq];rfl
 have h2:(fa L ([],[]) oid false 16).2=aD ((fa L ([],[]) oid false 16).1,0):=(nm (S:=([],[])) (n:=0) (f:=ke L oid false) rfl (Nat.zero_le _) (16:Int).toNat).1;refine⟨⟨h1,Nat.zero_le _,?_,hL⟩,h2⟩;have h3:=jZ (f:=ke L oid false) za (16:Int).toNat;show kc ((fa L ([],[]) oid false 16).1,aD ((fa L ([],[]) oid false 16).1,0)) _
 rw[<-h2];exact cN h3 (by show(0:Int)+((16:Int).toNat:Int)<=_;omega)
theorem xT {L:List Obj} {oid:Int} {g:H3} (h:eO L oid g):g.2<=g.1.length/\g.1.length<=8192/\kc (g.1,aD g) 200000:=by
 obtain⟨h1,h2,h3,h4⟩:=h
 have hl:g.1.length<=8192:=by
  have:=uy (oid:=oid) (p8 h4).2 g.2;rw[<-h1]at this;simpa using this
 exact⟨h2,hl,cN h3 (by omega)⟩
theorem G0 {L:List Obj} {oid:Int} {g:H3} (h:eO L oid g) (hn:¬aD g= []):g.2<g.1.length/\(∀c,bc (aD g) 0 c=ay (di (fF L oid g.2) g.2) c 0)/\di (fF L oid g.2) g.2∈fF L oid g.2:=by
 have hlt:g.2<g.1.length:=by
  refine Decidable.byContradiction fun hh=>hn ?_
  unfold aD;exact List.drop_eq_nil_of_le (by simp;omega)
 have hlt':g.2<(fF L oid g.2).length:=by rw[<-h.1];simpa using hlt
 refine⟨hlt,fun c=>?_,?_⟩
 ·unfold bc aD di ay;rw[h.1];simp[Mz]
 ·unfold di ay;rw[Mz,List.getElem?_eq_getElem hlt'];exact List.getElem_mem hlt'
theorem of_next {L:List Obj} {oid:Int} {g:H3} (h:eO L oid g) (hn:¬aD g= []) (T:CS) (hT:T=Ck L (g.1,sN (aD g)) (cq (di (fF L oid g.2) g.2))):
  eO L oid (T.1,g.2+1)/\iJ (T.1,g.2+1)<iJ g/\T.2=aD (T.1,g.2+1):=by
 obtain⟨hlt,_,_⟩:=G0 h hn;obtain⟨b1,b2,b3⟩:=xT h;obtain⟨h1,h2,h3,h4⟩:=h;have hlt':g.2<(fF L oid g.2).length:=by rw[<-h1];simpa using hlt
 have hk:T.1.map (·.1)=fF L oid (g.2+1):=by
  rw[hT,wD,fF,MB hlt',h1]
 have hl:T.2=aD (T.1,g.2+1):=by
  rw[hT];refine Cx (n:=g.2+1) ?_ hlt;show sN (aD g)=_
  unfold sN aD;rw[List.tail_drop]
 have hlen:g.2+1<=T.1.length:=by
  have:=(zr L (g.1.map (·.1)) (cq (di (fF L oid g.2) g.2))).length_le;have e:=congrArg List.length (wD L (g.1,sN (aD g)) (cq (di (fF L oid g.2) g.2)));rw[<-hT,List.length_map]at e;rw[List.length_map]at this;have e:T.1.length=(CT L (g.1.map (·.1)) (cq (di (fF L oid g.2) g.2))).length:=e;omega
 refine⟨⟨hk,hlen,?_,h4⟩,?_,hl⟩
 ·have hc:kc (g.1,sN (aD g)) (16+17*(g.2:Int)):=⟨h3.1,by
   have:=h3.2.1;show((sN (aD g)).length:Int)<=_
   unfold sN;rw[List.length_tail];have h0:((aD g).length:Int)<=16+17*(g.2:Int):=this;omega,h3.2.2⟩
  have:=GP (L:=L) (k:=cq (di (fF L oid g.2) g.2)) hc;rw[<-hT]at this;show kc (T.1,aD (T.1,g.2+1)) _
  rw[<-hl];exact cN this (by show _<=16+17*((g.2+1:Nat):Int);omega)
 ·unfold iJ;show 10000-(g.2+1)<10000-g.2
  omega
theorem Hn {D:List (Cp×Int)} (h5:∀x∈D.map (·.1),x.length=5) {q:Nat} (hq:q<D.length): [ck D q 0,ck D q 1,ck D q 2,ck D q 3,ck D q 4]=(D.map (·.1))[q]'(by simpa using hq):=by
 have e:∀c,ck D q c=ay ((D.map (·.1))[q]'(by simpa using hq)) c 0:=fun c=>by
  unfold ck ay;rw[Mz (l:=D),List.getElem?_eq_getElem hq];simp
 simp only[e];have hl:=h5 _ (List.getElem_mem (by simpa using hq))
 generalize (D.map (·.1))[q]'(by simpa using hq)=x at hl
 exact CR hl
theorem D7 {D:List (Cp×Int)} (h5:∀x∈D.map (·.1),x.length=5) {S:List Nat} (hS:iG D S) (hall:∀q,q<D.length->q∈S):(gq D S).Perm (D.map (·.1)):=by
 have hp:S.Perm (List.range D.length):=(List.perm_ext_iff_of_nodup hS.1 List.nodup_range).2 fun a=>by
  rw[List.mem_range];exact⟨hS.2 a,hall a⟩
 refine(hp.map _).trans ?_
 have:(List.range D.length).map (fun q=> [ck D q 0,ck D q 1,ck D q 2,ck D q 3,ck D q 4])=D.map (·.1):=by
  refine List.ext_getElem (by simp) fun i h1 h2=>?_
  have hi:i<D.length:=by simpa using h2
  rw[List.getElem_map,List.getElem_range];exact Hn h5 hi
 rw[this]
theorem yX {S:List Nat} {q:Nat}:EB S q=true↔q∈S:=by unfold EB;simp
theorem zx (S:List Nat) (q:Nat):oa (bj S q)=q:=by
 unfold oa bj ay;simp[Mz]
theorem Gu {D:List (Cp×Int)} {S:List Nat} {q:Nat} (hS:iG D S) (hD:D.length<=8192) (hq:q<D.length) (hn:EB S q=false):
  iG D (bj S q)/\oP (bj S q)<oP S/\e9 (ae (gq D S)) 40/\Ht (ae D) D (bj S q)/\bj (gq D S) [ck D q 0,ck D q 1,ck D q 2,ck D q 3,ck D q 4]=gq D (bj S q):=by
 have hm:q∉S:=fun h=>by rw[yX.2 h]at hn;simp at hn
 have hl:S.length<=D.length:=by
  have:=qT S (List.range D.length) hS.1 fun x hx=>by rw[List.mem_range];exact hS.2 x hx
  simpa using this
 refine⟨⟨?_,?_⟩,?_,?_,⟨rfl,?_,?_⟩,?_⟩
 ·unfold bj;rw[List.nodup_append];exact⟨hS.1,by simp,fun a ha b hb=>by simp at hb;subst hb;exact fun e=>hm (e▸ha)⟩
 ·intro x hx;unfold bj at hx;rcases List.mem_append.1 hx with hx|hx
  ·exact hS.2 x hx
  ·simp at hx;subst hx;exact hq
 ·unfold oP bj;simp;omega
 ·unfold e9 gq ae;simp only[maxLen,List.length_map];omega
 ·unfold ae bj;simp
 ·rw[zx];exact hq
 ·unfold bj gq;simp
theorem It {L:List Obj} {oid:Int} {g:H3} (h:eO L oid g) (h0:aD g= []) {S:List Nat} (hS:iG g.1 S) (hall:∀q,q<g.1.length->EB S q=true):uA (gq g.1 S)/\ib (gq g.1 S)=dq L oid:=by
 obtain⟨b1,b2,b3⟩:=xT h
 have hle:g.1.length<=g.2:=by
  unfold aD at h0;have:=List.drop_eq_nil_iff.1 h0;simpa using this
 have hrc:vN L oid=g.1.map (·.1):=by
  rw[h.1];refine vh (by omega) ?_
  rw[<-h.1];simpa using hle
 have h5:∀x∈g.1.map (·.1),x.length=5:=fun x hx=>(uU (L:=L) (oid:=oid) (n:=g.2) (by rw[<-h.1];exact hx)).2.1
 have hp:=D7 h5 hS fun q hq=>yX.1 (hall q hq)
 have hn:(g.1.map (·.1)).Nodup:=by rw[h.1];exact gF L oid _
 have h5':∀x∈gq g.1 S,x.length=5:=fun x hx=>h5 x (hp.mem_iff.1 hx)
 have hn':=hp.nodup_iff.2 hn;refine⟨⟨hn',h5',?_⟩,?_⟩
 ·have:=hp.length_eq;rw[this,List.length_map];omega
 ·unfold dq;rw[hrc];exact Bn h5' hn' hp
theorem Jx {L:List Obj} {oid:Int} {n:Nat} {c:Cp} (h:c∈fF L oid n) (hk:(cq c).kind=2):Ir (cq c).rights:=by
 have:=nF (uU h).1;rw[hk]at this;exact⟨this.1,by simpa[fK]using this.2⟩
end Go.Sx
