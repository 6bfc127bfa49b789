import Derived.Test.YtmfbohanboiklaaSpHe
set_option linter.unusedSimpArgs false
set_option linter.unusedVariables false
set_option maxRecDepth 100000
namespace Go.Sx
def Cy (L:List Obj) (oid:Int) (k:Key):Obj:=Obj.mk (aq L oid.toNat free).kind (aq L oid.toNat free).count (aq L oid.toNat free).calls (eZ.put 5 (cI k)) (aq L oid.toNat free).bytes
def wu (L:List Obj) (oid:Int) (k:Key):List Obj:=dv L oid (Cy L oid k)
def gn (L:List Obj) (oid:Int) (k:Key):List Cp:=aI (wu L oid k) oid
theorem vx {L:List Obj} {i:Int} {o:Obj} (hL:dW L) (h:cq L i o=0):dW (dv L i o)/\az L i=0/\dv L i o=eN L i.toNat o/\(dv L i o).length=L.length:=by
 have hh:az L i=0:=Decidable.byContradiction fun hn=>by
  rw[(zN hn).1]at h;exact hn h
 have ho:bk o (aa L:Int)=0:=Decidable.byContradiction fun hn=>by
  rw[(CK hh hn).1]at h;exact hn h
 have he:=(AY hh ho).2;have hl:(eN L i.toNat o).length=L.length:=by unfold eN;simp
 obtain⟨r0,r1⟩:=de.1 hh;rw[he];refine⟨?_,hh,rfl,hl⟩;unfold dW at hL⊢;rw[gR]at hL⊢;rw[hl];refine⟨hL.1,hL.2.1,fun j hj=>?_⟩
 rw[mI (by omega)]
 split
 ·have:dR o (aa L:Int)=true:=by
   unfold bk at ho;exact Decidable.byContradiction fun hn=>by rw[NW hn]at ho;simp at ho
  exact this
 ·exact hL.2.2 j hj
def wV (c:Cp):Prop:=((bP c).kind=2/\((bP c).rights=3\/(bP c).rights=7))\/((bP c).kind=3/\(bP c).rights=1)\/(bP c).kind=8
theorem HW (r:Int):gw r 3=3\/gw r 3=7:=by
 unfold gw cA eJ;have a:decide ((Int.tdiv 3 1).tmod 2=1)=true:=by decide
 have b:decide ((Int.tdiv 3 2).tmod 2=1)=true:=by decide
 simp only[a,b,Bool.or_true,and_true];rw[NX (by omega:(2:Int)<=8),NX (by omega:(4:Int)<=8)]
 by_cases hc:(8:Int)<=8/\(decide ((r.tdiv 4).tmod 2=1)||decide ((Int.tdiv 3 4).tmod 2=1))=true
 ·rw[NX hc];omega
 ·rw[NW hc];omega
theorem wY {k:Key} (h:gq (cI k)=true):wV (bc (cI k)):=by
 unfold cI at h⊢;split
 ·rename_i h2;exact .inl ⟨h2,HW _⟩
 ·split
  ·rename_i h3;exact .inr (.inl ⟨h3,rfl⟩)
  ·split
   ·rename_i a b c;rw[NW a,NW b,NX c]at h;unfold gq at h;simp only[NP,NQ]at h;refine .inr (.inr ?_);show k.kind=8
    omega
   ·rename_i a b c;rw[NW a,NW b,NW c]at h;simp[gq,void]at h
theorem HY {L:List Obj} {oid:Int} {i:Nat} (h:gq (iH L oid true i)=true):wV (bc (iH L oid true i)):=by
 unfold iH at h⊢;rw[NX rfl,kM]at h⊢;exact wY h
theorem J9 {L:List Obj} {oid:Int} {k:Key} (h0:0<=oid) (h1:oid<(L.length:Int)) (hs:∀i,i<16->(aq L oid.toNat free).slots.at i=if i=5 then cI k else void) (hk:k.kind=2):∀c,Cz L oid c->wV c:=by
 intro c h;induction h with
 |base i hi h1'=>
  rw[Fa (de.2 ⟨h0,h1⟩),hs i hi]at h1'⊢;by_cases h5:i=5
  ·rw[NX h5]at h1'⊢;have hp:aT L (cI k)=void\/aT L (cI k)=cI k:=by unfold aT;split<;>simp
   rcases hp with hp|hp
   ·rw[hp]at h1';simp[gq,void]at h1'
   ·rw[hp]at h1'⊢;exact wY h1'
  ·rw[NW h5,pU]at h1';simp[gq,void]at h1'
 |step c d hc hd ih=>
  obtain⟨k',e1,rfl,⟨h2,⟨i,hi,rfl⟩|⟨hr,rfl⟩⟩|⟨h5,_⟩⟩:=hd
  ·have hw:br (bP c)=true:=by
    rcases ih with⟨_,a|a⟩|⟨a,_⟩|a
    ·unfold br;rw[a];decide
    ·unfold br;rw[a];decide
    ·omega
    ·omega
   rw[hw]at e1⊢;exact HY e1
  ·rcases ih with⟨_,a|a⟩|⟨a,_⟩|a<;>omega
  ·rcases ih with⟨a,_⟩|⟨a,_⟩|a<;>omega
theorem IA {L:List Obj} {oid:Int} {k:Key} (hL:dW L) (hk:k.kind=2) (h:cq L oid (Cy L oid k)=0):dW (wu L oid k)/\cc (wu L oid k) oid=true/\(gn L oid k).length<=8192/\∀c∈gn L oid k,wV c:=by
 obtain⟨p1,p2,p3,p4⟩:=vx hL h;obtain⟨r0,r1⟩:=de.1 p2;have hok:dW (wu L oid k):=p1;have hlen:(wu L oid k).length=L.length:=p4;have h5:∀x∈la (wu L oid k) oid,x.length=5:=fun x hx=>(nf hx).2.1
 have hp:=(eF h5 (oP _ _)).2;refine⟨hok,decide_eq_true (de.2 ⟨r0,by rw[hlen];exact r1⟩),?_,fun c hc=>?_⟩
 ·show(gJ _).length<=8192
  rw[hp.length_eq];exact jP (iM hok).2 _
 ·refine J9 (k:=k) r0 (by rw[hlen];exact r1) (fun i hi=>?_) hk c ((C3 (iM hok).2).1 (hp.mem_iff.1 hc))
  show(aq (dv L oid (Cy L oid k)) oid.toNat free).slots.at i=_
  rw[p3,mI (by omega),NX rfl]
  show(eZ.put 5 (cI k)).at i=_
  rw[b6.jl _ _ _ _ (by omega),nw]
abbrev MS (F:List Cp) (j:Nat):Bool:=decide (aK F j 0=2)&&decide (b7 BinOp.and IntKind.i64 (aK F j 4) 3=3)||decide (aK F j 0=3)&&decide (aK F j 4=1)||decide (aK F j 0=8)
theorem Jq {F:List Cp} {j:Nat} (h:wV (cJ F j)):MS F j=true:=by
 have e0:aK F j 0=(bP (cJ F j)).kind:=rfl;have e4:aK F j 4=(bP (cJ F j)).rights:=rfl;unfold MS;rw[e0,e4];rcases h with⟨a,b|b⟩|⟨a,b⟩|a
 ·rw[a,b];decide
 ·rw[a,b];decide
 ·rw[a,b];decide
 ·rw[a];simp
end Go.Sx
