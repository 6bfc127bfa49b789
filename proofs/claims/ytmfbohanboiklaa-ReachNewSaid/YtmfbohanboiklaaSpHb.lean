import Derived.Test.YtmfbohanboiklaaSpHs
set_option linter.unusedSimpArgs false
set_option linter.unusedVariables false
set_option maxRecDepth 100000
namespace Go.Sx
def Kw (l:List Gh):bx:= {γ:=Unit,head:=fun U _=>U,inv:=fun _=>True,μ:=fun _=>0,pre:=l}
abbrev I4:Type:=List (Cp×Int)×Nat
def aF (g:I4):List Cp:=(g.1.map (·.1)).drop g.2
def fe (L:List Obj) (oid:Int) (g:I4):Prop:=g.1.map (·.1)=fc L oid g.2/\g.2<=g.1.length/\kN (g.1,aF g) (16+17*(g.2:Int))/\dg L
def jt (g:I4):Nat:=10000-g.2
def gN (D:List (Cp×Int)) (S:List Nat):List Cp:=S.map fun q=> [cA D q 0,cA D q 1,cA D q 2,cA D q 3,cA D q 4]
def jc (D:List (Cp×Int)) (S:List Nat):Prop:=S.Nodup/\∀q∈S,q<D.length
def pS (S:List Nat):Nat:=1000000-S.length
def Kr (res:List ai) (m:Nat):List (Cp×Int):=
 match ae res m with
 | .ms _ D=>D
 |_=> []
def NZ (eZ:List Nat) (c ty m i:Nat):bx:=
 {γ:=List Nat,head:=fun U g=> {U with slots:=z7 eZ [] 0 U.slots,res:=aM (aM U.res c (.blk ty (.sa U.res.length))) i (.mi m (aa (Kr U.res m)) g)++ [.arr (some qH) 5 (.qs 5 (gN (Kr U.res m) g))]},
  inv:=fun _=>True,pin:=some fun U g=>jc (Kr U.res m) g,μ:=pS,pre:= [.bv c qH 5 (.qs 5 [])],ext:=Jy c,prs:=fun _=> [.bv c qH 5 (.qs 5 [])]}
def Ev (o:Option (List Obj)):Prop:=match o with|some L=>dg L|none=>True
def Jg (o:Option (List Obj)):Prop:=match o with|some L=>dg L|none=>False
def K2:Ct:=B2 (bR (JF tS eS) (bR iA ji)) (fun x=>some (Jg x.1)) (fun _ n=> .sa n) fun x _=> [.arr (some qH) 5 (.qs 5 (ah (FK x.1) x.2.1))]
theorem Ma {L:List Obj} (hL:dg L) (oid:Int):fe L oid ((fB L ([],[]) oid false 16).1,0)/\(fB L ([],[]) oid false 16).2=aF ((fB L ([],[]) oid false 16).1,0):=by
 have h1:(fB L ([],[]) oid false 16).1.map (·.1)=fc L oid 0:=by unfold fB;rw[lQ];rfl
 have h2:(fB L ([],[]) oid false 16).2=aF ((fB L ([],[]) oid false 16).1,0):=(nP (S:=([],[])) (n:=0) (f:=kM L oid false) rfl (Nat.zero_le _) (16:Int).toNat).1;refine⟨⟨h1,Nat.zero_le _,?_,hL⟩,h2⟩;have h3:=j3 (f:=kM L oid false) Am (16:Int).toNat;show kN ((fB L ([],[]) oid false 16).1,aF ((fB L ([],[]) oid false 16).1,0)) _
 rw[<-h2];exact c8 h3 (by show(0:Int)+((16:Int).toNat:Int)<=_;omega)
theorem yS {L:List Obj} {oid:Int} {g:I4} (h:fe L oid g):g.2<=g.1.length/\g.1.length<=8192/\kN (g.1,aF g) 200000:=by
 obtain⟨h1,h2,h3,h4⟩:=h
 have hl:g.1.length<=8192:=by
  have:=mO (oid:=oid) (fg h4).2 g.2;rw[<-h1]at this;simpa using this
 exact⟨h2,hl,c8 h3 (by omega)⟩
theorem Io {L:List Obj} {oid:Int} {g:I4} (h:fe L oid g) (hn:¬aF g= []):g.2<g.1.length/\(∀c,aT (aF g) 0 c=ay (cw (fc L oid g.2) g.2) c 0)/\cw (fc L oid g.2) g.2∈fc L oid g.2:=by
 have hlt:g.2<g.1.length:=by
  refine Decidable.byContradiction fun hh=>hn ?_
  unfold aF;exact List.drop_eq_nil_of_le (by simp;omega)
 have hlt':g.2<(fc L oid g.2).length:=by rw[<-h.1];simpa using hlt
 refine⟨hlt,fun c=>?_,?_⟩
 ·unfold aT aF cw ay;rw[h.1];simp[N8]
 ·unfold cw ay;rw[N8,List.getElem?_eq_getElem hlt'];exact List.getElem_mem hlt'
theorem of_next {L:List Obj} {oid:Int} {g:I4} (h:fe L oid g) (hn:¬aF g= []) (T:CS) (hT:T=C4 L (g.1,tE (aF g)) (bc (cw (fc L oid g.2) g.2))):
  fe L oid (T.1,g.2+1)/\jt (T.1,g.2+1)<jt g/\T.2=aF (T.1,g.2+1):=by
 obtain⟨hlt,_,_⟩:=Io h hn;obtain⟨b1,b2,b3⟩:=yS h;obtain⟨h1,h2,h3,h4⟩:=h;have hlt':g.2<(fc L oid g.2).length:=by rw[<-h1];simpa using hlt
 have hk:T.1.map (·.1)=fc L oid (g.2+1):=by
  rw[hT,wN,fc,Oa hlt',h1]
 have hl:T.2=aF (T.1,g.2+1):=by
  rw[hT];refine D8 (n:=g.2+1) ?_ hlt;show tE (aF g)=_
  unfold tE aF;rw[List.tail_drop]
 have hlen:g.2+1<=T.1.length:=by
  have:=(Ac L (g.1.map (·.1)) (bc (cw (fc L oid g.2) g.2))).length_le;have e:=congrArg List.length (wN L (g.1,tE (aF g)) (bc (cw (fc L oid g.2) g.2)));rw[<-hT,List.length_map]at e;rw[List.length_map]at this;have e:T.1.length=(C8 L (g.1.map (·.1)) (bc (cw (fc L oid g.2) g.2))).length:=e;omega
 refine⟨⟨hk,hlen,?_,h4⟩,?_,hl⟩
 ·have hc:kN (g.1,tE (aF g)) (16+17*(g.2:Int)):=⟨h3.1,by
   have:=h3.2.1;show((tE (aF g)).length:Int)<=_
   unfold tE;rw[List.length_tail];have h0:((aF g).length:Int)<=16+17*(g.2:Int):=this;omega,h3.2.2⟩
  have:=Hs (L:=L) (k:=bc (cw (fc L oid g.2) g.2)) hc;rw[<-hT]at this;show kN (T.1,aF (T.1,g.2+1)) _
  rw[<-hl];exact c8 this (by show _<=16+17*((g.2+1:Nat):Int);omega)
 ·unfold jt;show 10000-(g.2+1)<10000-g.2
  omega
theorem IV {D:List (Cp×Int)} (h5:∀x∈D.map (·.1),x.length=5) {q:Nat} (hq:q<D.length): [cA D q 0,cA D q 1,cA D q 2,cA D q 3,cA D q 4]=(D.map (·.1))[q]'(by simpa using hq):=by
 have e:∀c,cA D q c=ay ((D.map (·.1))[q]'(by simpa using hq)) c 0:=fun c=>by
  unfold cA ay;rw[N8 (l:=D),List.getElem?_eq_getElem hq];simp
 simp only[e];have hl:=h5 _ (List.getElem_mem (by simpa using hq))
 generalize (D.map (·.1))[q]'(by simpa using hq)=x at hl
 exact DB hl
theorem EP {D:List (Cp×Int)} (h5:∀x∈D.map (·.1),x.length=5) {S:List Nat} (hS:jc D S) (hall:∀q,q<D.length->q∈S):(gN D S).Perm (D.map (·.1)):=by
 have hp:S.Perm (List.range D.length):=(List.perm_ext_iff_of_nodup hS.1 List.nodup_range).2 fun a=>by
  rw[List.mem_range];exact⟨hS.2 a,hall a⟩
 refine(hp.map _).trans ?_
 have:(List.range D.length).map (fun q=> [cA D q 0,cA D q 1,cA D q 2,cA D q 3,cA D q 4])=D.map (·.1):=by
  refine List.ext_getElem (by simp) fun i h1 h2=>?_
  have hi:i<D.length:=by simpa using h2
  rw[List.getElem_map,List.getElem_range];exact IV h5 hi
 rw[this]
theorem Ak {S:List Nat} {q:Nat}:FI S q=true↔q∈S:=by unfold FI;simp
theorem Az (S:List Nat) (q:Nat):oQ (bg S q)=q:=by
 unfold oQ bg ay;simp[N8]
theorem F7 {D:List (Cp×Int)} {S:List Nat} {q:Nat} (hS:jc D S) (hD:D.length<=8192) (hq:q<D.length) (hn:FI S q=false):
  jc D (bg S q)/\pS (bg S q)<pS S/\eC (aa (gN D S)) 40/\Kl (aa D) D (bg S q)/\bg (gN D S) [cA D q 0,cA D q 1,cA D q 2,cA D q 3,cA D q 4]=gN D (bg S q):=by
 have hm:q∉S:=fun h=>by rw[Ak.2 h]at hn;simp at hn
 have hl:S.length<=D.length:=by
  have:=sO S (List.range D.length) hS.1 fun x hx=>by rw[List.mem_range];exact hS.2 x hx
  simpa using this
 refine⟨⟨?_,?_⟩,?_,?_,⟨rfl,?_,?_⟩,?_⟩
 ·unfold bg;rw[List.nodup_append];exact⟨hS.1,by simp,fun a ha b hb=>by simp at hb;subst hb;exact fun e=>hm (e▸ha)⟩
 ·intro x hx;unfold bg at hx;rcases List.mem_append.1 hx with hx|hx
  ·exact hS.2 x hx
  ·simp at hx;subst hx;exact hq
 ·unfold pS bg;simp;omega
 ·unfold eC gN aa;simp only[maxLen,List.length_map];omega
 ·unfold aa bg;simp
 ·rw[Az];exact hq
 ·unfold bg gN;simp
theorem KC {L:List Obj} {oid:Int} {g:I4} (h:fe L oid g) (h0:aF g= []) {S:List Nat} (hS:jc g.1 S) (hall:∀q,q<g.1.length->FI S q=true):vP (gN g.1 S)/\ia (gN g.1 S)=ah L oid:=by
 obtain⟨b1,b2,b3⟩:=yS h
 have hle:g.1.length<=g.2:=by
  unfold aF at h0;have:=List.drop_eq_nil_iff.1 h0;simpa using this
 have hrc:ny L oid=g.1.map (·.1):=by
  rw[h.1];refine qV (by omega) ?_
  rw[<-h.1];simpa using hle
 have h5:∀x∈g.1.map (·.1),x.length=5:=fun x hx=>(pg (L:=L) (oid:=oid) (n:=g.2) (by rw[<-h.1];exact hx)).2.1
 have hp:=EP h5 hS fun q hq=>Ak.1 (hall q hq)
 have hn:(g.1.map (·.1)).Nodup:=by rw[h.1];exact hU L oid _
 have h5':∀x∈gN g.1 S,x.length=5:=fun x hx=>h5 x (hp.mem_iff.1 hx)
 have hn':=hp.nodup_iff.2 hn;refine⟨⟨hn',h5',?_⟩,?_⟩
 ·have:=hp.length_eq;rw[this,List.length_map];omega
 ·unfold ah;rw[hrc];exact A4 h5' hn' hp
theorem Mb {L:List Obj} {oid:Int} {n:Nat} {c:Cp} (h:c∈fc L oid n) (hk:(bc c).kind=2):Ju (bc c).rights:=by
 have:=kq (pg h).1;rw[hk]at this;exact⟨this.1,by simpa[fk]using this.2⟩
end Go.Sx
