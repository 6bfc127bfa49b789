import Derived.Test.YtmfbohanboiklaaSpHs
set_option linter.unusedSimpArgs false
set_option linter.unusedVariables false
set_option maxRecDepth 100000
namespace Go.Sx
def Kq (l:List Gh):bC:= {γ:=Unit,head:=fun U _=>U,inv:=fun _=>True,μ:=fun _=>0,pre:=l}
abbrev Kh:Type:=List (Cp×Int)×Nat
def aE (g:Kh):List Cp:=(g.1.map (·.1)).drop g.2
def fa (L:List Obj) (oid:Int) (g:Kh):Prop:=g.1.map (·.1)=fc L oid g.2/\g.2<=g.1.length/\kG (g.1,aE g) (16+17*(g.2:Int))/\dW L
def ji (g:Kh):Nat:=10000-g.2
def gE (D:List (Cp×Int)) (S:List Nat):List Cp:=S.map fun q=> [cx D q 0,cx D q 1,cx D q 2,cx D q 3,cx D q 4]
def iQ (D:List (Cp×Int)) (S:List Nat):Prop:=S.Nodup/\∀q∈S,q<D.length
def pY (S:List Nat):Nat:=1000000-S.length
def JW (res:List ah) (m:Nat):List (Cp×Int):=
 match ae res m with
 | .ms _ D=>D
 |_=> []
def ND (fF:List Nat) (c ty m i:Nat):bC:=
 {γ:=List Nat,head:=fun U g=> {U with slots:=Cs fF [] 0 U.slots,res:=aL (aL U.res c (.blk ty (.sa U.res.length))) i (.mi m (aa (JW U.res m)) g)++ [.arr (some vq) 5 (.qs 5 (gE (JW U.res m) g))]},
  inv:=fun _=>True,pin:=some fun U g=>iQ (JW U.res m) g,μ:=pY,pre:= [.bv c vq 5 (.qs 5 [])],ext:=Lm c,prs:=fun _=> [.bv c vq 5 (.qs 5 [])]}
def qo (o:Option (List Obj)):Prop:=match o with|some L=>dW L|none=>True
def MB (o:Option (List Obj)):Prop:=match o with|some L=>dW L|none=>False
def LK:Ct:=EU (cy (KH tS eS) (cy iA j8)) (fun x=>some (MB x.1)) (fun _ n=> .sa n) fun x _=> [.arr (some vq) 5 (.qs 5 (aI (L1 x.1) x.2.1))]
theorem Ll {L:List Obj} (hL:dW L) (oid:Int):fa L oid ((fo L ([],[]) oid false 16).1,0)/\(fo L ([],[]) oid false 16).2=aE ((fo L ([],[]) oid false 16).1,0):=by
 have h1:(fo L ([],[]) oid false 16).1.map (·.1)=fc L oid 0:=by unfold fo;rw[kQ];rfl
 have h2:(fo L ([],[]) oid false 16).2=aE ((fo L ([],[]) oid false 16).1,0):=(nI (S:=([],[])) (n:=0) (f:=iH L oid false) rfl (Nat.zero_le _) (16:Int).toNat).1;refine⟨⟨h1,Nat.zero_le _,?_,hL⟩,h2⟩;have h3:=kb (f:=iH L oid false) Ay (16:Int).toNat;show kG ((fo L ([],[]) oid false 16).1,aE ((fo L ([],[]) oid false 16).1,0)) _
 rw[<-h2];exact c8 h3 (by show(0:Int)+((16:Int).toNat:Int)<=_;omega)
theorem yD {L:List Obj} {oid:Int} {g:Kh} (h:fa L oid g):g.2<=g.1.length/\g.1.length<=8192/\kG (g.1,aE g) 200000:=by
 obtain⟨h1,h2,h3,h4⟩:=h
 have hl:g.1.length<=8192:=by
  have:=jP (oid:=oid) (iM h4).2 g.2;rw[<-h1]at this;simpa using this
 exact⟨h2,hl,c8 h3 (by omega)⟩
theorem Im {L:List Obj} {oid:Int} {g:Kh} (h:fa L oid g) (hn:¬aE g= []):g.2<g.1.length/\(∀c,aK (aE g) 0 c=aq (cJ (fc L oid g.2) g.2) c 0)/\cJ (fc L oid g.2) g.2∈fc L oid g.2:=by
 have hlt:g.2<g.1.length:=by
  refine Decidable.byContradiction fun hh=>hn ?_
  unfold aE;exact List.drop_eq_nil_of_le (by simp;omega)
 have hlt':g.2<(fc L oid g.2).length:=by rw[<-h.1];simpa using hlt
 refine⟨hlt,fun c=>?_,?_⟩
 ·unfold aK aE cJ aq;rw[h.1];simp[NV]
 ·unfold cJ aq;rw[NV,List.getElem?_eq_getElem hlt'];exact List.getElem_mem hlt'
theorem of_next {L:List Obj} {oid:Int} {g:Kh} (h:fa L oid g) (hn:¬aE g= []) (T:CS) (hT:T=EI L (g.1,tB (aE g)) (bP (cJ (fc L oid g.2) g.2))):
  fa L oid (T.1,g.2+1)/\ji (T.1,g.2+1)<ji g/\T.2=aE (T.1,g.2+1):=by
 obtain⟨hlt,_,_⟩:=Im h hn;obtain⟨b1,b2,b3⟩:=yD h;obtain⟨h1,h2,h3,h4⟩:=h;have hlt':g.2<(fc L oid g.2).length:=by rw[<-h1];simpa using hlt
 have hk:T.1.map (·.1)=fc L oid (g.2+1):=by
  rw[hT,xO,fc,NX hlt',h1]
 have hl:T.2=aE (T.1,g.2+1):=by
  rw[hT];refine DT (n:=g.2+1) ?_ hlt;show tB (aE g)=_
  unfold tB aE;rw[List.tail_drop]
 have hlen:g.2+1<=T.1.length:=by
  have:=(Aa L (g.1.map (·.1)) (bP (cJ (fc L oid g.2) g.2))).length_le;have e:=congrArg List.length (xO L (g.1,tB (aE g)) (bP (cJ (fc L oid g.2) g.2)));rw[<-hT,List.length_map]at e;rw[List.length_map]at this;have e:T.1.length=(Fb L (g.1.map (·.1)) (bP (cJ (fc L oid g.2) g.2))).length:=e;omega
 refine⟨⟨hk,hlen,?_,h4⟩,?_,hl⟩
 ·have hc:kG (g.1,tB (aE g)) (16+17*(g.2:Int)):=⟨h3.1,by
   have:=h3.2.1;show((tB (aE g)).length:Int)<=_
   unfold tB;rw[List.length_tail];have h0:((aE g).length:Int)<=16+17*(g.2:Int):=this;omega,h3.2.2⟩
  have:=Gx (L:=L) (k:=bP (cJ (fc L oid g.2) g.2)) hc;rw[<-hT]at this;show kG (T.1,aE (T.1,g.2+1)) _
  rw[<-hl];exact c8 this (by show _<=16+17*((g.2+1:Nat):Int);omega)
 ·unfold ji;show 10000-(g.2+1)<10000-g.2
  omega
theorem Kn {D:List (Cp×Int)} (h5:∀x∈D.map (·.1),x.length=5) {q:Nat} (hq:q<D.length): [cx D q 0,cx D q 1,cx D q 2,cx D q 3,cx D q 4]=(D.map (·.1))[q]'(by simpa using hq):=by
 have e:∀c,cx D q c=aq ((D.map (·.1))[q]'(by simpa using hq)) c 0:=fun c=>by
  unfold cx aq;rw[NV (l:=D),List.getElem?_eq_getElem hq];simp
 simp only[e];have hl:=h5 _ (List.getElem_mem (by simpa using hq))
 generalize (D.map (·.1))[q]'(by simpa using hq)=x at hl
 exact Ek hl
theorem EP {D:List (Cp×Int)} (h5:∀x∈D.map (·.1),x.length=5) {S:List Nat} (hS:iQ D S) (hall:∀q,q<D.length->q∈S):(gE D S).Perm (D.map (·.1)):=by
 have hp:S.Perm (List.range D.length):=(List.perm_ext_iff_of_nodup hS.1 List.nodup_range).2 fun a=>by
  rw[List.mem_range];exact⟨hS.2 a,hall a⟩
 refine(hp.map _).trans ?_
 have:(List.range D.length).map (fun q=> [cx D q 0,cx D q 1,cx D q 2,cx D q 3,cx D q 4])=D.map (·.1):=by
  refine List.ext_getElem (by simp) fun i h1 h2=>?_
  have hi:i<D.length:=by simpa using h2
  rw[List.getElem_map,List.getElem_range];exact Kn h5 hi
 rw[this]
theorem AE {S:List Nat} {q:Nat}:FE S q=true↔q∈S:=by unfold FE;simp
theorem AN (S:List Nat) (q:Nat):oU (bg S q)=q:=by
 unfold oU bg aq;simp[NV]
theorem Hf {D:List (Cp×Int)} {S:List Nat} {q:Nat} (hS:iQ D S) (hD:D.length<=8192) (hq:q<D.length) (hn:FE S q=false):
  iQ D (bg S q)/\pY (bg S q)<pY S/\ep (aa (gE D S)) 40/\Ja (aa D) D (bg S q)/\bg (gE D S) [cx D q 0,cx D q 1,cx D q 2,cx D q 3,cx D q 4]=gE D (bg S q):=by
 have hm:q∉S:=fun h=>by rw[AE.2 h]at hn;simp at hn
 have hl:S.length<=D.length:=by
  have:=s4 S (List.range D.length) hS.1 fun x hx=>by rw[List.mem_range];exact hS.2 x hx
  simpa using this
 refine⟨⟨?_,?_⟩,?_,?_,⟨rfl,?_,?_⟩,?_⟩
 ·unfold bg;rw[List.nodup_append];exact⟨hS.1,by simp,fun a ha b hb=>by simp at hb;subst hb;exact fun e=>hm (e▸ha)⟩
 ·intro x hx;unfold bg at hx;rcases List.mem_append.1 hx with hx|hx
  ·exact hS.2 x hx
  ·simp at hx;subst hx;exact hq
 ·unfold pY bg;simp;omega
 ·unfold ep gE aa;simp only[maxLen,List.length_map];omega
 ·unfold aa bg;simp
 ·rw[AN];exact hq
 ·unfold bg gE;simp
theorem JR {L:List Obj} {oid:Int} {g:Kh} (h:fa L oid g) (h0:aE g= []) {S:List Nat} (hS:iQ g.1 S) (hall:∀q,q<g.1.length->FE S q=true):vB (gE g.1 S)/\gJ (gE g.1 S)=aI L oid:=by
 obtain⟨b1,b2,b3⟩:=yD h
 have hle:g.1.length<=g.2:=by
  unfold aE at h0;have:=List.drop_eq_nil_iff.1 h0;simpa using this
 have hrc:la L oid=g.1.map (·.1):=by
  rw[h.1];refine rq (by omega) ?_
  rw[<-h.1];simpa using hle
 have h5:∀x∈g.1.map (·.1),x.length=5:=fun x hx=>(nf (L:=L) (oid:=oid) (n:=g.2) (by rw[<-h.1];exact hx)).2.1
 have hp:=EP h5 hS fun q hq=>AE.1 (hall q hq)
 have hn:(g.1.map (·.1)).Nodup:=by rw[h.1];exact gT L oid _
 have h5':∀x∈gE g.1 S,x.length=5:=fun x hx=>h5 x (hp.mem_iff.1 hx)
 have hn':=hp.nodup_iff.2 hn;refine⟨⟨hn',h5',?_⟩,?_⟩
 ·have:=hp.length_eq;rw[this,List.length_map];omega
 ·unfold aI;rw[hrc];exact Cb h5' hn' hp
theorem KE {L:List Obj} {oid:Int} {n:Nat} {c:Cp} (h:c∈fc L oid n) (hk:(bP c).kind=2):Jg (bP c).rights:=by
 have:=oW (nf h).1;rw[hk]at this;exact⟨this.1,by simpa[fU]using this.2⟩
end Go.Sx
