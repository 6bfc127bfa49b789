import Derived.Test.YtmfbohanboiklaaGreatSpHs
set_option linter.unusedSimpArgs false
set_option linter.unusedVariables false
set_option maxRecDepth 100000
namespace Go.Sx
def Fe (l:List Gh):bG:= {γ:=Unit,head:=fun U _=>U,inv:=fun _=>True,μ:=fun _=>0,pre:=l}
abbrev Fs:Type:=List (Cp×Int)×Nat
def ay (g:Fs):List Cp:=(g.1.map (·.1)).drop g.2
def ep (L:List Obj) (oid:Int) (g:Fs):Prop:=g.1.map (·.1)=hX L oid g.2/\g.2<=g.1.length/\jg (g.1,ay g) (16+17*(g.2:Int))/\ow L
def gT (g:Fs):Nat:=10000-g.2
def fE (D:List (Cp×Int)) (S:List Nat):List Cp:=S.map fun q=> [bM D q 0,bM D q 1,bM D q 2,bM D q 3,bM D q 4]
def gF (D:List (Cp×Int)) (S:List Nat):Prop:=S.Nodup/\∀q∈S,q<D.length
def nG (S:List Nat):Nat:=1000000-S.length
def E7 (res:List ae) (m:Nat):List (Cp×Int):=
 match aa res m with
 | .ms _ D=>D
 |_=> []
def JD (k7:List Nat) (c ty m i:Nat):bG:=
 {γ:=List Nat,head:=fun U g=> {U with slots:=GH k7 [] 0 U.slots,res:=aG (aG U.res c (.blk ty (.sa U.res.length))) i (.mi m (ar (E7 U.res m)) g)++ [.arr (some qZ) 5 (.qs 5 (fE (E7 U.res m) g))]},
  inv:=fun _=>True,pin:=some fun U g=>gF (E7 U.res m) g,μ:=nG,pre:= [.bv c qZ 5 (.qs 5 [])],ext:=Hh c,prs:=fun _=> [.bv c qZ 5 (.qs 5 [])]}
def xW (o:Option (List Obj)):Prop:=match o with|some L=>ow L|none=>True
def Iy (o:Option (List Obj)):Prop:=match o with|some L=>ow L|none=>False
def G1:Ct:=FA (eH (Hk tS eS) (eH iA tF)) (fun x=>some (Iy x.1)) (fun _ n=> .sa n) fun x _=> [.arr (some qZ) 5 (.qs 5 (eT (Ib x.1) x.2.1))]
theorem HW {L:List Obj} (hL:ow L) (oid:Int):ep L oid ((eE L ([],[]) oid false 16).1,0)/\(eE L ([],[]) oid false 16).2=ay ((eE L ([],[]) oid false 16).1,0):=by
 have h1:(eE L ([],[]) oid false 16).1.map (·.1)=hX L oid 0:=by unfold eE;rw[ka];rfl
 have h2:(eE L ([],[]) oid false 16).2=ay ((eE L ([],[]) oid false 16).1,0):=(mg (S:=([],[])) (n:=0) (f:=oQ L oid false) rfl (Nat.zero_le _) (16:Int).toNat).1;refine⟨⟨h1,Nat.zero_le _,?_,hL⟩,h2⟩;have h3:=iM (f:=oQ L oid false) w8 (16:Int).toNat;show jg ((eE L ([],[]) oid false 16).1,ay ((eE L ([],[]) oid false 16).1,0)) _
 rw[<-h2];exact ck h3 (by show(0:Int)+((16:Int).toNat:Int)<=_;omega)
theorem vR {L:List Obj} {oid:Int} {g:Fs} (h:ep L oid g):g.2<=g.1.length/\g.1.length<=8192/\jg (g.1,ay g) 200000:=by
 obtain⟨h1,h2,h3,h4⟩:=h
 have hl:g.1.length<=8192:=by
  have:=DG (oid:=oid) (Dc h4).2 g.2;rw[<-h1]at this;simpa using this
 exact⟨h2,hl,ck h3 (by omega)⟩
theorem EI {L:List Obj} {oid:Int} {g:Fs} (h:ep L oid g) (hn:¬ay g= []):g.2<g.1.length/\(∀c,cM (ay g) 0 c=aB (jo (hX L oid g.2) g.2) c 0)/\jo (hX L oid g.2) g.2∈hX L oid g.2:=by
 have hlt:g.2<g.1.length:=by
  refine Decidable.byContradiction fun hh=>hn ?_
  unfold ay;exact List.drop_eq_nil_of_le (by simp;omega)
 have hlt':g.2<(hX L oid g.2).length:=by rw[<-h.1];simpa using hlt
 refine⟨hlt,fun c=>?_,?_⟩
 ·unfold cM ay jo aB;rw[h.1];simp[JW]
 ·unfold jo aB;rw[JW,List.getElem?_eq_getElem hlt'];exact List.getElem_mem hlt'
theorem of_next {L:List Obj} {oid:Int} {g:Fs} (h:ep L oid g) (hn:¬ay g= []) (T:CS) (hT:T=zQ L (g.1,ra (ay g)) (cw (jo (hX L oid g.2) g.2))):
  ep L oid (T.1,g.2+1)/\gT (T.1,g.2+1)<gT g/\T.2=ay (T.1,g.2+1):=by
 obtain⟨hlt,_,_⟩:=EI h hn;obtain⟨b1,b2,b3⟩:=vR h;obtain⟨h1,h2,h3,h4⟩:=h;have hlt':g.2<(hX L oid g.2).length:=by rw[<-h1];simpa using hlt
 have hk:T.1.map (·.1)=hX L oid (g.2+1):=by
  rw[hT,tT,hX,JY hlt',h1]
 have hl:T.2=ay (T.1,g.2+1):=by
  rw[hT];refine BI (n:=g.2+1) ?_ hlt;show ra (ay g)=_
  unfold ra ay;rw[List.tail_drop]
 have hlen:g.2+1<=T.1.length:=by
  have:=(Dq L (g.1.map (·.1)) (cw (jo (hX L oid g.2) g.2))).length_le;have e:=congrArg List.length (tT L (g.1,ra (ay g)) (cw (jo (hX L oid g.2) g.2)));rw[<-hT,List.length_map]at e;rw[List.length_map]at this;have e:T.1.length=(Cq L (g.1.map (·.1)) (cw (jo (hX L oid g.2) g.2))).length:=e;omega
 refine⟨⟨hk,hlen,?_,h4⟩,?_,hl⟩
 ·have hc:jg (g.1,ra (ay g)) (16+17*(g.2:Int)):=⟨h3.1,by
   have:=h3.2.1;show((ra (ay g)).length:Int)<=_
   unfold ra;rw[List.length_tail];have h0:((ay g).length:Int)<=16+17*(g.2:Int):=this;omega,h3.2.2⟩
  have:=CT (L:=L) (k:=cw (jo (hX L oid g.2) g.2)) hc;rw[<-hT]at this;show jg (T.1,ay (T.1,g.2+1)) _
  rw[<-hl];exact ck this (by show _<=16+17*((g.2+1:Nat):Int);omega)
 ·unfold gT;show 10000-(g.2+1)<10000-g.2
  omega
theorem E5 {D:List (Cp×Int)} (h5:∀x∈D.map (·.1),x.length=5) {q:Nat} (hq:q<D.length): [bM D q 0,bM D q 1,bM D q 2,bM D q 3,bM D q 4]=(D.map (·.1))[q]'(by simpa using hq):=by
 have e:∀c,bM D q c=aB ((D.map (·.1))[q]'(by simpa using hq)) c 0:=fun c=>by
  unfold bM aB;rw[JW (l:=D),List.getElem?_eq_getElem hq];simp
 simp only[e];have hl:=h5 _ (List.getElem_mem (by simpa using hq))
 generalize (D.map (·.1))[q]'(by simpa using hq)=x at hl
 exact E4 hl
theorem Aa {D:List (Cp×Int)} (h5:∀x∈D.map (·.1),x.length=5) {S:List Nat} (hS:gF D S) (hall:∀q,q<D.length->q∈S):(fE D S).Perm (D.map (·.1)):=by
 have hp:S.Perm (List.range D.length):=(List.perm_ext_iff_of_nodup hS.1 List.nodup_range).2 fun a=>by
  rw[List.mem_range];exact⟨hS.2 a,hall a⟩
 refine(hp.map _).trans ?_
 have:(List.range D.length).map (fun q=> [bM D q 0,bM D q 1,bM D q 2,bM D q 3,bM D q 4])=D.map (·.1):=by
  refine List.ext_getElem (by simp) fun i h1 h2=>?_
  have hi:i<D.length:=by simpa using h2
  rw[List.getElem_map,List.getElem_range];exact E5 h5 hi
 rw[this]
theorem xN {S:List Nat} {q:Nat}:Cs S q=true↔q∈S:=by unfold Cs;simp
theorem xt (S:List Nat) (q:Nat):mH (bf S q)=q:=by
 unfold mH bf aB;simp[JW]
theorem Ed {D:List (Cp×Int)} {S:List Nat} {q:Nat} (hS:gF D S) (hD:D.length<=8192) (hq:q<D.length) (hn:Cs S q=false):
  gF D (bf S q)/\nG (bf S q)<nG S/\jt (ar (fE D S)) 40/\F2 (ar D) D (bf S q)/\bf (fE D S) [bM D q 0,bM D q 1,bM D q 2,bM D q 3,bM D q 4]=fE D (bf S q):=by
 have hm:q∉S:=fun h=>by rw[xN.2 h]at hn;simp at hn
 have hl:S.length<=D.length:=by
  have:=pX S (List.range D.length) hS.1 fun x hx=>by rw[List.mem_range];exact hS.2 x hx
  simpa using this
 refine⟨⟨?_,?_⟩,?_,?_,⟨rfl,?_,?_⟩,?_⟩
 ·unfold bf;rw[List.nodup_append];exact⟨hS.1,by simp,fun a ha b hb=>by simp at hb;subst hb;exact fun e=>hm (e▸ha)⟩
 ·intro x hx;unfold bf at hx;rcases List.mem_append.1 hx with hx|hx
  ·exact hS.2 x hx
  ·simp at hx;subst hx;exact hq
 ·unfold nG bf;simp;omega
 ·unfold jt fE ar;simp only[maxLen,List.length_map];omega
 ·unfold ar bf;simp
 ·rw[xt];exact hq
 ·unfold bf fE;simp
theorem Ff {L:List Obj} {oid:Int} {g:Fs} (h:ep L oid g) (h0:ay g= []) {S:List Nat} (hS:gF g.1 S) (hall:∀q,q<g.1.length->Cs S q=true):sU (fE g.1 S)/\kg (fE g.1 S)=eT L oid:=by
 obtain⟨b1,b2,b3⟩:=vR h
 have hle:g.1.length<=g.2:=by
  unfold ay at h0;have:=List.drop_eq_nil_iff.1 h0;simpa using this
 have hrc:Cy L oid=g.1.map (·.1):=by
  rw[h.1];refine xr (by omega) ?_
  rw[<-h.1];simpa using hle
 have h5:∀x∈g.1.map (·.1),x.length=5:=fun x hx=>(Bi (L:=L) (oid:=oid) (n:=g.2) (by rw[<-h.1];exact hx)).2.1
 have hp:=Aa h5 hS fun q hq=>xN.1 (hall q hq)
 have hn:(g.1.map (·.1)).Nodup:=by rw[h.1];exact kT L oid _
 have h5':∀x∈fE g.1 S,x.length=5:=fun x hx=>h5 x (hp.mem_iff.1 hx)
 have hn':=hp.nodup_iff.2 hn;refine⟨⟨hn',h5',?_⟩,?_⟩
 ·have:=hp.length_eq;rw[this,List.length_map];omega
 ·unfold eT;rw[hrc];exact yn h5' hn' hp
theorem Hv {L:List Obj} {oid:Int} {n:Nat} {c:Cp} (h:c∈hX L oid n) (hk:(cw c).kind=2):EY (cw c).rights:=by
 have:=mh (Bi h).1;rw[hk]at this;exact⟨this.1,by simpa[fA]using this.2⟩
end Go.Sx
