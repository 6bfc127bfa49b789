import Derived.Test.YtmfbohanboiklaaSpHe
set_option linter.unusedSimpArgs false
set_option linter.unusedVariables false
set_option maxRecDepth 100000
namespace Go.Sx
def B6 (L:List Obj) (oid:Int) (k:Key):Obj:=Obj.mk (au L oid.toNat free).kind (au L oid.toNat free).count (au L oid.toNat free).calls (eX.put 5 (cA k)) (au L oid.toNat free).bytes
def vS (L:List Obj) (oid:Int) (k:Key):List Obj:=dO L oid (B6 L oid k)
def gk (L:List Obj) (oid:Int) (k:Key):List Cp:=dt (vS L oid k) oid
theorem Gc {L:List Obj} {i:Int} {o:Obj} (hL:fC L) (h:cY L i o=0):fC (dO L i o)/\aC L i=0/\dO L i o=eI L i.toNat o/\(dO L i o).length=L.length:=by
 have hh:aC L i=0:=Decidable.byContradiction fun hn=>by
  rw[(zW hn).1]at h;exact hn h
 have ho:bh o (aa L:Int)=0:=Decidable.byContradiction fun hn=>by
  rw[(EE hh hn).1]at h;exact hn h
 have he:=(z1 hh ho).2;have hl:(eI L i.toNat o).length=L.length:=by unfold eI;simp
 obtain⟨r0,r1⟩:=ec.1 hh;rw[he];refine⟨?_,hh,rfl,hl⟩;unfold fC at hL⊢;rw[gQ]at hL⊢;rw[hl];refine⟨hL.1,hL.2.1,fun j hj=>?_⟩
 rw[tI (by omega)]
 split
 ·have:dI o (aa L:Int)=true:=by
   unfold bh at ho;exact Decidable.byContradiction fun hn=>by rw[Nf hn]at ho;simp at ho
  exact this
 ·exact hL.2.2 j hj
def xm (c:Cp):Prop:=((bX c).kind=2/\((bX c).rights=3\/(bX c).rights=7))\/((bX c).kind=3/\(bX c).rights=1)\/(bX c).kind=8
theorem FD (r:Int):gr r 3=3\/gr r 3=7:=by
 unfold gr cr ey;have a:decide ((Int.tdiv 3 1).tmod 2=1)=true:=by decide
 have b:decide ((Int.tdiv 3 2).tmod 2=1)=true:=by decide
 simp only[a,b,Bool.or_true,and_true];rw[Ng (by omega:(2:Int)<=8),Ng (by omega:(4:Int)<=8)]
 by_cases hc:(8:Int)<=8/\(decide ((r.tdiv 4).tmod 2=1)||decide ((Int.tdiv 3 4).tmod 2=1))=true
 ·rw[Ng hc];omega
 ·rw[Nf hc];omega
theorem wI {k:Key} (h:gJ (cA k)=true):xm (bd (cA k)):=by
 unfold cA at h⊢;split
 ·rename_i h2;exact .inl ⟨h2,FD _⟩
 ·split
  ·rename_i h3;exact .inr (.inl ⟨h3,rfl⟩)
  ·split
   ·rename_i a b c;rw[Nf a,Nf b,Ng c]at h;unfold gJ at h;simp only[M8,M9]at h;refine .inr (.inr ?_);show k.kind=8
    omega
   ·rename_i a b c;rw[Nf a,Nf b,Nf c]at h;simp[gJ,void]at h
theorem GY {L:List Obj} {oid:Int} {i:Nat} (h:gJ (jj L oid true i)=true):xm (bd (jj L oid true i)):=by
 unfold jj at h⊢;rw[Ng rfl,kE]at h⊢;exact wI h
theorem Ih {L:List Obj} {oid:Int} {k:Key} (h0:0<=oid) (h1:oid<(L.length:Int)) (hs:∀i,i<16->(au L oid.toNat free).slots.at i=if i=5 then cA k else void) (hk:k.kind=2):∀c,FN L oid c->xm c:=by
 intro c h;induction h with
 |base i hi h1'=>
  rw[DQ (ec.2 ⟨h0,h1⟩),hs i hi]at h1'⊢;by_cases h5:i=5
  ·rw[Ng h5]at h1'⊢;have hp:bc L (cA k)=void\/bc L (cA k)=cA k:=by unfold bc;split<;>simp
   rcases hp with hp|hp
   ·rw[hp]at h1';simp[gJ,void]at h1'
   ·rw[hp]at h1'⊢;exact wI h1'
  ·rw[Nf h5,uJ]at h1';simp[gJ,void]at h1'
 |step c d hc hd ih=>
  obtain⟨k',e1,rfl,⟨h2,⟨i,hi,rfl⟩|⟨hr,rfl⟩⟩|⟨h5,_⟩⟩:=hd
  ·have hw:bq (bX c)=true:=by
    rcases ih with⟨_,a|a⟩|⟨a,_⟩|a
    ·unfold bq;rw[a];decide
    ·unfold bq;rw[a];decide
    ·omega
    ·omega
   rw[hw]at e1⊢;exact GY e1
  ·rcases ih with⟨_,a|a⟩|⟨a,_⟩|a<;>omega
  ·rcases ih with⟨a,_⟩|⟨a,_⟩|a<;>omega
theorem It {L:List Obj} {oid:Int} {k:Key} (hL:fC L) (hk:k.kind=2) (h:cY L oid (B6 L oid k)=0):fC (vS L oid k)/\dp (vS L oid k) oid=true/\(gk L oid k).length<=8192/\∀c∈gk L oid k,xm c:=by
 obtain⟨p1,p2,p3,p4⟩:=Gc hL h;obtain⟨r0,r1⟩:=ec.1 p2;have hok:fC (vS L oid k):=p1;have hlen:(vS L oid k).length=L.length:=p4;have h5:∀x∈nk (vS L oid k) oid,x.length=5:=fun x hx=>(sw hx).2.1
 have hp:=(fR h5 (wh _ _)).2;refine⟨hok,decide_eq_true (ec.2 ⟨r0,by rw[hlen];exact r1⟩),?_,fun c hc=>?_⟩
 ·show(gX _).length<=8192
  rw[hp.length_eq];exact mw (mr hok).2 _
 ·refine Ih (k:=k) r0 (by rw[hlen];exact r1) (fun i hi=>?_) hk c ((H4 (mr hok).2).1 (hp.mem_iff.1 hc))
  show(au (dO L oid (B6 L oid k)) oid.toNat free).slots.at i=_
  rw[p3,tI (by omega),Ng rfl]
  show(eX.put 5 (cA k)).at i=_
  rw[bZ.jS _ _ _ _ (by omega),mV]
abbrev Mq (F:List Cp) (j:Nat):Bool:=decide (aN F j 0=2)&&decide (b6 BinOp.and IntKind.i64 (aN F j 4) 3=3)||decide (aN F j 0=3)&&decide (aN F j 4=1)||decide (aN F j 0=8)
theorem Jv {F:List Cp} {j:Nat} (h:xm (cT F j)):Mq F j=true:=by
 have e0:aN F j 0=(bX (cT F j)).kind:=rfl;have e4:aN F j 4=(bX (cT F j)).rights:=rfl;unfold Mq;rw[e0,e4];rcases h with⟨a,b|b⟩|⟨a,b⟩|a
 ·rw[a,b];decide
 ·rw[a,b];decide
 ·rw[a,b];decide
 ·rw[a];simp
end Go.Sx
