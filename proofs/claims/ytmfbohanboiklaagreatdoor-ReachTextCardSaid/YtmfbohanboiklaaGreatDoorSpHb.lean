import Derived.Test.YtmfbohanboiklaaGreatDoorSpHs
set_option linter.unusedSimpArgs false
set_option linter.unusedVariables false
set_option maxRecDepth 100000
namespace Go.Sx
def EJ(l:List Gh):cj:= {γ:=Unit,head:=fun U _=>U,inv:=fun _=>True,μ:=fun _=>0,pre:=l}
abbrev Hl:Type:=List (Cp×Int)×Nat
def aW(g:Hl):List Cp:=(g.1.map (·.1)).drop g.2
def fb(L:List Obj)(oid:Int)(g:Hl):Prop:=g.1.map (·.1)=jf L oid g.2/\g.2<=g.1.length/\kc (g.1,aW g) (16+17*(g.2:Int))/\pH L
def jb(g:Hl):Nat:=10000-g.2
def gu(D:List (Cp×Int))(S:List Nat):List Cp:=S.map fun q=> [cC D q 0,cC D q 1,cC D q 2,cC D q 3,cC D q 4]
def iP(D:List (Cp×Int))(S:List Nat):Prop:=S.Nodup/\∀q∈S,q<D.length
def oX(S:List Nat):Nat:=1000000-S.length
def HS(res:List aI)(m:Nat):List (Cp×Int):=
 match aH res m with
 | .ms _ D=>D
 |_=> []
def Mj(mh:List Nat)(c ty m i:Nat):cj:=
 {γ:=List Nat,head:=fun U g=> {U with slots:=Jb mh [] 0 U.slots,res:=bd (bd U.res c (.blk ty (.sa U.res.length))) i (.mi m (aN (HS U.res m)) g)++ [.arr (some sL) 5 (.qs 5 (gu (HS U.res m) g))]},
  inv:=fun _=>True,pin:=some fun U g=>iP (HS U.res m) g,μ:=oX,pre:= [.bv c sL 5 (.qs 5 [])],ext:=Jy c,prs:=fun _=> [.bv c sL 5 (.qs 5 [])]}
def DO(o:Option (List Obj)):Prop:=match o with|some L=>pH L|none=>True
def Lo(o:Option (List Obj)):Prop:=match o with|some L=>pH L|none=>False
def JN:Ct:=Hp (dH (Kt tS eS) (dH iA mj)) (fun x=>some (Lo x.1)) (fun _ n=> .sa n) fun x _=> [.arr (some sL) 5 (.qs 5 (ka (KU x.1) x.2.1))]
theorem J8{L:List Obj}(hL:pH L)(oid:Int):fb L oid ((ft L ([],[]) oid false 16).1,0)/\(ft L ([],[]) oid false 16).2=aW ((ft L ([],[]) oid false 16).1,0):=by
 have h1:(ft L ([],[]) oid false 16).1.map (·.1)=jf L oid 0:=by unfold ft;rw[kH];rfl
 have h2:(ft L ([],[]) oid false 16).2=aW ((ft L ([],[]) oid false 16).1,0):=(ny (S:=([],[])) (n:=0) (f:=p5 L oid false) rfl (Nat.zero_le _) (16:Int).toNat).1;refine⟨⟨h1,Nat.zero_le _,?_,hL⟩,h2⟩;have h3:=jQ (f:=p5 L oid false) zH (16:Int).toNat;show kc ((ft L ([],[]) oid false 16).1,aW ((ft L ([],[]) oid false 16).1,0)) _
 rw[<-h2];exact df h3 (by show(0:Int)+((16:Int).toNat:Int)<=_;omega)
theorem yI{L:List Obj}{oid:Int}{g:Hl}(h:fb L oid g):g.2<=g.1.length/\g.1.length<=8192/\kc (g.1,aW g) 200000:=by
 obtain⟨h1,h2,h3,h4⟩:=h
 have hl:g.1.length<=8192:=by
  have:=Fl (oid:=oid) (E4 h4).2 g.2;rw[<-h1]at this;simpa using this
 exact⟨h2,hl,df h3 (by omega)⟩
theorem GZ{L:List Obj}{oid:Int}{g:Hl}(h:fb L oid g)(hn:¬aW g= []):g.2<g.1.length/\(∀c,cr (aW g) 0 c=aX (gI (jf L oid g.2) g.2) c 0)/\gI (jf L oid g.2) g.2∈jf L oid g.2:=by
 have hlt:g.2<g.1.length:=by
  refine Decidable.byContradiction fun hh=>hn ?_
  unfold aW;exact List.drop_eq_nil_of_le (by simp;omega)
 have hlt':g.2<(jf L oid g.2).length:=by rw[<-h.1];simpa using hlt
 refine⟨hlt,fun c=>?_,?_⟩
 ·unfold cr aW gI aX;rw[h.1];simp[aq]
 ·unfold gI aX;rw[aq,List.getElem?_eq_getElem hlt'];exact List.getElem_mem hlt'
theorem of_next{L:List Obj}{oid:Int}{g:Hl}(h:fb L oid g)(hn:¬aW g= [])(T:CS)(hT:T=De L (g.1,sM (aW g)) (cT (gI (jf L oid g.2) g.2))):
  fb L oid (T.1,g.2+1)/\jb (T.1,g.2+1)<jb g/\T.2=aW (T.1,g.2+1):=by
 obtain⟨hlt,_,_⟩:=GZ h hn;obtain⟨b1,b2,b3⟩:=yI h;obtain⟨h1,h2,h3,h4⟩:=h;have hlt':g.2<(jf L oid g.2).length:=by rw[<-h1];simpa using hlt
 have hk:T.1.map (·.1)=jf L oid (g.2+1):=by
  rw[hT,vP,jf,au hlt',h1]
 have hl:T.2=aW (T.1,g.2+1):=by
  rw[hT];refine B5 (n:=g.2+1) ?_ hlt;show sM (aW g)=_
  unfold sM aW;rw[List.tail_drop]
 have hlen:g.2+1<=T.1.length:=by
  have:=(Gu L (g.1.map (·.1)) (cT (gI (jf L oid g.2) g.2))).length_le;have e:=congrArg List.length (vP L (g.1,sM (aW g)) (cT (gI (jf L oid g.2) g.2)));rw[<-hT,List.length_map]at e;rw[List.length_map]at this;have e:T.1.length=(Ep L (g.1.map (·.1)) (cT (gI (jf L oid g.2) g.2))).length:=e;omega
 refine⟨⟨hk,hlen,?_,h4⟩,?_,hl⟩
 ·have hc:kc (g.1,sM (aW g)) (16+17*(g.2:Int)):=⟨h3.1,by
   have:=h3.2.1;show((sM (aW g)).length:Int)<=_
   unfold sM;rw[List.length_tail];have h0:((aW g).length:Int)<=16+17*(g.2:Int):=this;omega,h3.2.2⟩
  have:=Eu (L:=L) (k:=cT (gI (jf L oid g.2) g.2)) hc;rw[<-hT]at this;show kc (T.1,aW (T.1,g.2+1)) _
  rw[<-hl];exact df this (by show _<=16+17*((g.2+1:Nat):Int);omega)
 ·unfold jb;show 10000-(g.2+1)<10000-g.2
  omega
theorem HU{D:List (Cp×Int)}(h5:∀x∈D.map (·.1),x.length=5){q:Nat}(hq:q<D.length): [cC D q 0,cC D q 1,cC D q 2,cC D q 3,cC D q 4]=(D.map (·.1))[q]'(by simpa using hq):=by
 have e:∀c,cC D q c=aX ((D.map (·.1))[q]'(by simpa using hq)) c 0:=fun c=>by
  unfold cC aX;rw[aq (l:=D),List.getElem?_eq_getElem hq];simp
 simp only[e];have hl:=h5 _ (List.getElem_mem (by simpa using hq))
 generalize (D.map (·.1))[q]'(by simpa using hq)=x at hl
 exact H7 hl
theorem DH{D:List (Cp×Int)}(h5:∀x∈D.map (·.1),x.length=5){S:List Nat}(hS:iP D S)(hall:∀q,q<D.length->q∈S):(gu D S).Perm (D.map (·.1)):=by
 have hp:S.Perm (List.range D.length):=(List.perm_ext_iff_of_nodup hS.1 List.nodup_range).2 fun a=>by
  rw[List.mem_range];exact⟨hS.2 a,hall a⟩
 refine(hp.map _).trans ?_
 have:(List.range D.length).map (fun q=> [cC D q 0,cC D q 1,cC D q 2,cC D q 3,cC D q 4])=D.map (·.1):=by
  refine List.ext_getElem (by simp) fun i h1 h2=>?_
  have hi:i<D.length:=by simpa using h2
  rw[List.getElem_map,List.getElem_range];exact HU h5 hi
 rw[this]
theorem yV{S:List Nat}{q:Nat}:Eo S q=true↔q∈S:=by unfold Eo;simp
theorem zi(S:List Nat)(q:Nat):nL (bN S q)=q:=by
 unfold nL bN aX;simp[aq]
theorem FQ{D:List (Cp×Int)}{S:List Nat}{q:Nat}(hS:iP D S)(hD:D.length<=8192)(hq:q<D.length)(hn:Eo S q=false):
  iP D (bN S q)/\oX (bN S q)<oX S/\cV (aN (gu D S)) 40/\Ii (aN D) D (bN S q)/\bN (gu D S) [cC D q 0,cC D q 1,cC D q 2,cC D q 3,cC D q 4]=gu D (bN S q):=by
 have hm:q∉S:=fun h=>by rw[yV.2 h]at hn;simp at hn
 have hl:S.length<=D.length:=by
  have:=rW S (List.range D.length) hS.1 fun x hx=>by rw[List.mem_range];exact hS.2 x hx
  simpa using this
 refine⟨⟨?_,?_⟩,?_,?_,⟨rfl,?_,?_⟩,?_⟩
 ·unfold bN;rw[List.nodup_append];exact⟨hS.1,by simp,fun a ha b hb=>by simp at hb;subst hb;exact fun e=>hm (e▸ha)⟩
 ·intro x hx;unfold bN at hx;rcases List.mem_append.1 hx with hx|hx
  ·exact hS.2 x hx
  ·simp at hx;subst hx;exact hq
 ·unfold oX bN;simp;omega
 ·unfold cV gu aN;simp only[maxLen,List.length_map];omega
 ·unfold aN bN;simp
 ·rw[zi];exact hq
 ·unfold bN gu;simp
theorem Hn{L:List Obj}{oid:Int}{g:Hl}(h:fb L oid g)(h0:aW g= []){S:List Nat}(hS:iP g.1 S)(hall:∀q,q<g.1.length->Eo S q=true):uN (gu g.1 S)/\kr (gu g.1 S)=ka L oid:=by
 obtain⟨b1,b2,b3⟩:=yI h
 have hle:g.1.length<=g.2:=by
  unfold aW at h0;have:=List.drop_eq_nil_iff.1 h0;simpa using this
 have hrc:F4 L oid=g.1.map (·.1):=by
  rw[h.1];refine zP (by omega) ?_
  rw[<-h.1];simpa using hle
 have h5:∀x∈g.1.map (·.1),x.length=5:=fun x hx=>(CF (L:=L) (oid:=oid) (n:=g.2) (by rw[<-h.1];exact hx)).2.1
 have hp:=DH h5 hS fun q hq=>yV.1 (hall q hq)
 have hn:(g.1.map (·.1)).Nodup:=by rw[h.1];exact lZ L oid _
 have h5':∀x∈gu g.1 S,x.length=5:=fun x hx=>h5 x (hp.mem_iff.1 hx)
 have hn':=hp.nodup_iff.2 hn;refine⟨⟨hn',h5',?_⟩,?_⟩
 ·have:=hp.length_eq;rw[this,List.length_map];omega
 ·unfold ka;rw[hrc];exact AM h5' hn' hp
theorem J1{L:List Obj}{oid:Int}{n:Nat}{c:Cp}(h:c∈jf L oid n)(hk:(cT c).kind=2):I8 (cT c).rights:=by
 have:=jK (CF h).1;rw[hk]at this;exact⟨this.1,by simpa[fg]using this.2⟩
end Go.Sx
