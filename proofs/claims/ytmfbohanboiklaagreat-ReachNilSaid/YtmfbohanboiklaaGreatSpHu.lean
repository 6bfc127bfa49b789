import Derived.Test.YtmfbohanboiklaaGreatSpH
set_option linter.unusedSimpArgs false
set_option linter.unusedVariables false
namespace Go.Sx
theorem pX {α:Type} [DecidableEq α]:∀(l m:List α),l.Nodup->(∀x∈l,x∈m)->l.length<=m.length
 | [],m,_,_=>by simp
 |x::l,m,hn,hs=>by
  rw[List.nodup_cons]at hn;have h1:x∈m:=hs x (by simp)
  have h2:=pX l (m.erase x) hn.2 fun y hy=>(List.mem_erase_of_ne (fun e:y=x=>hn.1 (by rw[<-e];exact hy))).2 (hs y (by simp[hy]))
  rw[List.length_erase_of_mem h1]at h2;have:=List.length_pos_of_mem h1;simp only[List.length_cons];omega
theorem ti {F:List Cp} {k:Key} {c:Cp}:c∈BL F k↔c∈F\/(kZ k=true/\c=bu k):=by
 unfold BL xS;by_cases h:kZ k=true<;>by_cases hm:bu k∈F<;>simp[h,hm]
 rintro rfl;exact hm
theorem me {F:List Cp} {f:Nat->Key} {c:Cp}:∀n:Nat,c∈Db F f n↔c∈F\/∃i,i<n/\kZ (f i)=true/\c=bu (f i)
 |0=>by simp[Db]
 |n+1=>by
  simp only[Db,ti,me n];constructor
  ·rintro((h|⟨i,hi,h⟩)|h)
   ·exact .inl h
   ·exact .inr ⟨i,by omega,h⟩
   ·exact .inr ⟨n,by omega,h⟩
  ·rintro(h|⟨i,hi,h⟩)
   ·exact .inl (.inl h)
   ·rcases Nat.lt_or_ge i n with h1|h1
    ·exact .inl (.inr ⟨i,h1,h⟩)
    ·have:i=n:=by omega
     exact .inr (this▸h)
theorem nF {F:List Cp} {k:Key} (h:F.Nodup):(BL F k).Nodup:=by
 unfold BL xS;split
 ·rename_i hh;have hm:bu k∉F:=JU hh.2;rw[List.nodup_append];exact⟨h,by simp,fun a ha b hb=>by simp at hb;subst hb;exact fun e=>hm (e▸ha)⟩
 ·exact h
theorem h9 {F:List Cp} {f:Nat->Key} (h:F.Nodup):∀n:Nat,(Db F f n).Nodup
 |0=>h
 |n+1=>nF (h9 h n)
theorem o9 (F:List Cp) (k:Key):F<+:BL F k:=by
 unfold BL;split
 ·exact List.prefix_append _ _
 ·exact List.prefix_refl _
theorem o7 (F:List Cp) (f:Nat->Key):∀n:Nat,F<+:Db F f n
 |0=>List.prefix_refl _
 |n+1=>(o7 F f n).trans (o9 _ _)
theorem ka (S:CS) (f:Nat->Key):∀n:Nat,(Dd S f n).1.map (·.1)=Db (S.1.map (·.1)) f n
 |0=>rfl
 |n+1=>by simp only[Dd,Db,mR,ka S f n]
theorem tT (L:List Obj) (S:CS) (k:Key):(zQ L S k).1.map (·.1)=Cq L (S.1.map (·.1)) k:=by
 unfold zQ Cq vH Hs Cv GY eE s9;split
 ·split
  ·rw[mR,ka]
  ·rw[ka]
 ·split
  ·rw[mR,ka]
  ·rfl
theorem Bq {S:CS} {c:Cp} {n:Nat} (h:S.2=(S.1.map (·.1)).drop n) (hn:n<=S.1.length):(Gz S c).2=((Gz S c).1.map (·.1)).drop n:=by
 rw[uF];show(if bX S.1 c=true then S.2 else bf S.2 c)=_
 unfold bf;simp only[pW];split
 ·exact h
 ·rw[h,List.drop_append_of_le_length (by simpa using hn)]
theorem p8 {S:CS} {k:Key} {n:Nat} (h:S.2=(S.1.map (·.1)).drop n) (hn:n<=S.1.length):(ju S k).2=((ju S k).1.map (·.1)).drop n:=by
 unfold ju;split
 ·exact Bq h hn
 ·exact h
theorem CE {S:CS} {k:Key}:S.1.length<=(ju S k).1.length:=by
 have:=(o9 (S.1.map (·.1)) k).length_le;rw[<-mR]at this;simpa using this
theorem mg {S:CS} {f:Nat->Key} {n:Nat} (h:S.2=(S.1.map (·.1)).drop n) (hn:n<=S.1.length):∀m:Nat,(Dd S f m).2=((Dd S f m).1.map (·.1)).drop n/\n<=(Dd S f m).1.length
 |0=>⟨h,hn⟩
 |m+1=>by
  obtain⟨h1,h2⟩:=mg h hn m;exact⟨p8 h1 h2,Nat.le_trans h2 CE⟩
theorem BI {L:List Obj} {S:CS} {k:Key} {n:Nat} (h:S.2=(S.1.map (·.1)).drop n) (hn:n<=S.1.length):(zQ L S k).2=((zQ L S k).1.map (·.1)).drop n:=by
 unfold zQ vH Cv eE;split
 ·obtain⟨h1,h2⟩:=mg (f:=oQ L k.oid (cV k)) h hn (16:Int).toNat;split
  ·exact p8 h1 h2
  ·exact h1
 ·split
  ·obtain⟨h1,h2⟩:=mg (f:=oQ L k.oid false) h hn (16:Int).toNat;exact p8 h1 h2
  ·exact h
theorem CT {L:List Obj} {S:CS} {k:Key} {n:Int} (h:jg S n):jg (zQ L S k) (n+17):=by
 unfold zQ vH Cv eE;split
 ·have h1:=iM (f:=oQ L k.oid (cV k)) h (16:Int).toNat;split
  ·exact ck (tt h1) (by omega)
  ·exact ck h1 (by omega)
 ·split
  ·have h1:=iM (f:=oQ L k.oid false) h (16:Int).toNat;exact ck (tt h1) (by omega)
  ·exact ck h (by omega)
theorem u5 (D:List (Cp×Int)) (c:Cp):aO D c=(D.map (·.1)).findIdx fun x=>decide (x=c):=by
 unfold aO;rw[List.findIdx_map];rfl
theorem xU {D:List (Cp×Int)} {c:Cp}:aO (aK D c) c=aO D c:=by
 by_cases h:bX D c=true
 ·unfold aK;rw[JY h]
 ·have hn:=qR h;rw[hn];unfold aK;rw[JX h];unfold aO at hn⊢;rw[List.findIdx_append,JX (by omega)]
  simp
theorem Eh {D:List (Cp×Int)} {c:Cp}:aR (aK D c) c=aR D c:=by
 by_cases h:bX D c=true
 ·unfold aK;rw[JY h]
 ·rw[tB h];unfold aR;rw[xU,qR h];unfold aK;rw[JX h];simp[aB,JW]
theorem Dp {D:List (Cp×Int)} {c:Cp} {v:Int}:aR (bN (aK D c) (aO D c) v) c=v:=by
 have hi:aO (bN (aK D c) (aO D c) v) c=aO D c:=by rw[u5 (bN _ _ _),tU,<-u5,xU]
 unfold aR;rw[hi];unfold bN aB;have:=Bg (D:=D) (c:=c);rw[JW,List.getElem?_set_self this];rfl
theorem yU {S:CS} {c:Cp} (hS:jg S 1000000):fy .i64 (aR S.1 c+1)/\rN S.1/\(0<=dp (aO S.1 c)/\dp (aO S.1 c)<((ar (aK S.1 c):Nat):Int))/\jt (ar S.2) 40/\(aR S.1 c+1=1↔ ¬bX S.1 c=true):=by
 obtain⟨h1,h2,h3⟩:=hS
 have hg:0<=aR S.1 c/\aR S.1 c<=1000000/\(bX S.1 c=true->1<=aR S.1 c):=by
  by_cases hh:bX S.1 c=true
  ·have:=h3 _ (get_mem hh);have e:aR S.1 c=(aB S.1 (aO S.1 c) ([],0)).2:=rfl;exact⟨by omega,by omega,fun _=>by omega⟩
  ·rw[tB hh];exact⟨by omega,by omega,fun h=>absurd h hh⟩
 refine⟨?_,?_,⟨Int.natCast_nonneg _,?_⟩,?_,fun h h'=>?_,fun h=>?_⟩
 ·simp only[fy,br];omega
 ·unfold rN;omega
 ·exact Int.ofNat_lt.2 Bg
 ·unfold jt;simp only[maxLen,ar];omega
 ·have:=hg.2.2 h';omega
 ·rw[tB h];rfl
def Ld (L:List Obj) (c d:Cp):Prop:=∃k,kZ k=true/\d=bu k/\
 (((cw c).kind=2/\((∃i,i<16/\k=oQ L (cw c).oid (cV (cw c)) i)\/((cw c).rights=0/\k=Fk (cw c))))\/((cw c).kind=5/\((∃i,i<16/\k=oQ L (cw c).oid false i)\/k=Ex (cw c))))
inductive GA (L:List Obj) (oid:Int):Cp->Prop where
 |base (i:Nat):i<16->kZ (oQ L oid false i)=true->GA L oid (bu (oQ L oid false i))
 |step (c d:Cp):GA L oid c->Ld L c d->GA L oid d
theorem Dg {L:List Obj} {F:List Cp} {c d:Cp}:d∈Cq L F (cw c)↔d∈F\/Ld L c d:=by
 unfold Cq Hs GY s9 Ld;have h16:(16:Int).toNat=16:=rfl;by_cases h2:(cw c).kind=2
 ·simp only[h2,if_true,true_and,h16];by_cases hr:(cw c).rights=0
  ·simp only[hr,if_true,ti,me,true_and];constructor
   ·rintro((h|⟨i,hi,h1,h2⟩)|⟨h1,h2⟩)
    ·exact .inl h
    ·exact .inr ⟨_,h1,h2,.inl (.inl ⟨i,hi,rfl⟩)⟩
    ·exact .inr ⟨_,h1,h2,.inl (.inr rfl)⟩
   ·rintro(h|⟨k,h1,h2,(⟨i,hi,rfl⟩|rfl)|⟨h3,_⟩⟩)
    ·exact .inl (.inl h)
    ·exact .inl (.inr ⟨i,hi,h1,h2⟩)
    ·exact .inr ⟨h1,h2⟩
    ·omega
  ·simp only[hr,if_false,me,false_and,or_false];constructor
   ·rintro(h|⟨i,hi,h1,h2⟩)
    ·exact .inl h
    ·exact .inr ⟨_,h1,h2,.inl ⟨i,hi,rfl⟩⟩
   ·rintro(h|⟨k,h1,h2,⟨i,hi,rfl⟩|⟨h3,_⟩⟩)
    ·exact .inl h
    ·exact .inr ⟨i,hi,h1,h2⟩
    ·omega
 ·by_cases h5:(cw c).kind=5
  ·have h52:¬(5:Int)=2:=by omega
   simp only[h5,h52,if_true,if_false,false_and,true_and,false_or,h16,ti,me];constructor
   ·rintro((h|⟨i,hi,h1,h2⟩)|⟨h1,h2⟩)
    ·exact .inl h
    ·exact .inr ⟨_,h1,h2,.inl ⟨i,hi,rfl⟩⟩
    ·exact .inr ⟨_,h1,h2,.inr rfl⟩
   ·rintro(h|⟨k,h1,h2,⟨i,hi,rfl⟩|rfl⟩)
    ·exact .inl (.inl h)
    ·exact .inl (.inr ⟨i,hi,h1,h2⟩)
    ·exact .inr ⟨h1,h2⟩
  ·simp[h2,h5]
theorem ym {L:List Obj} {F:List Cp} {k:Key} (h:F.Nodup):(Cq L F k).Nodup:=by
 unfold Cq Hs GY s9;split
 ·split
  ·exact nF (h9 h _)
  ·exact h9 h _
 ·split
  ·exact nF (h9 h _)
  ·exact h
theorem Dq (L:List Obj) (F:List Cp) (k:Key):F<+:Cq L F k:=by
 unfold Cq Hs GY s9;split
 ·split
  ·exact(o7 _ _ _).trans (o9 _ _)
  ·exact o7 _ _ _
 ·split
  ·exact(o7 _ _ _).trans (o9 _ _)
  ·exact List.prefix_refl _
theorem kT (L:List Obj) (oid:Int):∀n,(hX L oid n).Nodup
 |0=>h9 (by simp) _
 |n+1=>by
  simp only[hX];split
  ·exact ym (kT L oid n)
  ·exact kT L oid n
theorem qT {L:List Obj} {oid:Int} {n:Nat} (h:(hX L oid n).length<=n):∀m,hX L oid (n+m)=hX L oid n
 |0=>rfl
 |m+1=>by
  show hX L oid (n+m+1)=_
  rw[hX,JX (by rw[qT h m];omega),qT h m]
theorem mJ {L:List Obj} {oid:Int}:∀n c,c∈hX L oid n->GA L oid c
 |0,c,h=>by
  unfold hX s9 at h;rw[me]at h;rcases h with h|⟨i,hi,h1,rfl⟩
  ·simp at h
  ·exact .base i hi h1
 |n+1,c,h=>by
  rw[hX]at h;split at h
  ·rename_i hlt;rcases Dg.1 h with h|h
   ·exact mJ n c h
   ·refine .step _ _ (mJ n _ ?_) h;unfold jo aB;rw[JW,List.getElem?_eq_getElem hlt];exact List.getElem_mem hlt
  ·exact mJ n c h
def tg (L:List Obj):List Cp:=(List.range 64).flatMap fun(o:Nat)=>(List.range 16).flatMap fun(i:Nat)=> [bu (oQ L (o:Int) false i),bu (oQ L (o:Int) true i)]
def Bp (L:List Obj):List Cp:=(tg L).map fun c=>bu (Fk (cw c))
def Fh (L:List Obj):List Cp:=(tg L++Bp L).map fun c=>bu (Ex (cw c))
def tY (L:List Obj):List Cp:=tg L++Bp L++Fh L
theorem s5 {α β:Type} {f:α->List β} {m:Nat} (h:∀x,(f x).length=m):∀l:List α,(l.flatMap f).length=l.length*m
 | []=>by simp
 |x::l=>by simp[s5 h l,h,Nat.add_mul];omega
theorem DT (L:List Obj):(tY L).length=8192:=by
 have h:(tg L).length=2048:=by
  unfold tg;rw[s5 (m:=32) (fun o=>by rw[s5 (m:=2) (fun i=>rfl)];simp)]
  simp
 unfold tY Fh Bp;simp[h]
theorem yZ (L:List Obj):cL L void=void:=by unfold cL;split<;>rfl
theorem uG:cC void=void:=by decide
theorem DL {L:List Obj} {oid:Int} {w:Bool} {i:Nat} (h:aF L oid≠0):oQ L oid w i=void:=by
 unfold oQ bO;rw[JX h];have:free.slots.at i=void:=qv i;rw[this,yZ,uG];simp
theorem DU:kZ void=false:=rfl
theorem s8 {L:List Obj} {oid:Int} {w:Bool} {i:Nat} (hL:L.length<=64) (hi:i<16) (h:kZ (oQ L oid w i)=true):bu (oQ L oid w i)∈tg L:=by
 have hr:aF L oid=0:=by
  refine Decidable.byContradiction fun hn=>?_
  rw[DL hn,DU]at h;simp at h
 obtain⟨h0,h1⟩:=qG.1 hr;unfold tg;rw[List.mem_flatMap];refine⟨oid.toNat,by simp;omega,?_⟩
 rw[List.mem_flatMap];refine⟨i,by simpa using hi,?_⟩
 rw[show((oid.toNat:Nat):Int)=oid by omega]
 cases w<;>simp
theorem AL {L:List Obj} {oid:Int} (hL:L.length<=64):∀c,GA L oid c->c∈tY L/\((cw c).kind=2->c∈tg L)/\((cw c).kind=5->c∈tg L++Bp L):=by
 intro c h;induction h with
 |base i hi h1=>
  have:=s8 hL hi h1;exact⟨by unfold tY;simp[this],fun _=>this,fun _=>by simp[this]⟩
 |step c d hc hd ih=>
  obtain⟨i1,i2,i3⟩:=ih;obtain⟨k,h1,rfl,⟨h2,⟨i,hi,rfl⟩|⟨hr,rfl⟩⟩|⟨h2,⟨i,hi,rfl⟩|rfl⟩⟩:=hd
  ·have:=s8 hL hi h1;exact⟨by unfold tY;simp[this],fun _=>this,fun _=>by simp[this]⟩
  ·have:bu (Fk (cw c))∈Bp L:=List.mem_map.2 ⟨c,i2 h2,rfl⟩;exact⟨by unfold tY;simp[this],fun h=>by simp[bu,cw,aB,Fk]at h,fun _=>by simp[this]⟩
  ·have:=s8 hL hi h1;exact⟨by unfold tY;simp[this],fun _=>this,fun _=>by simp[this]⟩
  ·have:bu (Ex (cw c))∈Fh L:=List.mem_map.2 ⟨c,i3 h2,rfl⟩;exact⟨by unfold tY;simp[this],fun h=>by simp[bu,cw,aB,Ex]at h,fun h=>by simp[bu,cw,aB,Ex]at h⟩
theorem DG {L:List Obj} {oid:Int} (hL:L.length<=64) (n:Nat):(hX L oid n).length<=8192:=by
 rw[<-DT L];exact pX _ _ (kT L oid n) fun c hc=>(AL hL c (mJ n c hc)).1
theorem xr {L:List Obj} {oid:Int} {n:Nat} (hn:n<=10000) (h:(hX L oid n).length<=n):Cy L oid=hX L oid n:=by
 unfold Cy;obtain⟨m,hm⟩:∃m,10000=n+m:=⟨10000-n,by omega⟩
 rw[hm];exact qT h m
theorem vM {k:Key} (h:aC k=true):aC (cC k)=true:=by
 unfold cC;rw[JY h];unfold vQ;simp only[aC,JR,JS,Bool.or_eq_true]at h;split
 ·rename_i hk;simp only[aC,vE,JR,JS,Bool.or_eq_true,hk,fA,k8,dP,gL]at h⊢
  have hw:0<=nr k.rights 3/\nr k.rights 3<=7:=by
   unfold nr xR;repeat' split
   all_goals omega
  simp_all
 ·split
  ·rename_i hk;simp only[aC,vE,JR,JS,Bool.or_eq_true,hk,fA,k8,dP,gL]at h⊢;simp_all
  ·split
   ·simpa only[aC,JR,JS,Bool.or_eq_true]using h
   ·decide
theorem vO (L:List Obj) (oid:Int) (w:Bool) (i:Nat):aC (oQ L oid w i)=true:=by
 unfold oQ;split
 ·exact vM (p9 _ _)
 ·exact p9 _ _
theorem jT {k:Key} (h:aC k=true):aC (cw (bu k))=true:=by
 simp only[aC,JR,JS,Bool.or_eq_true]at h⊢;exact⟨⟨⟨⟨h.1.1.1.1,.inr rfl⟩,h.1.1.2⟩,h.1.2⟩,h.2⟩
theorem Gq {L:List Obj} {oid:Int}:∀c,GA L oid c->aC (cw c)=true/\c.length=5/\bu (cw c)=c/\kZ (cw c)=true:=by
 intro c h;induction h with
 |base i hi h1=>exact⟨jT (vO _ _ _ _),rfl,rfl,h1⟩
 |step c d hc hd ih=>
  obtain⟨k,h1,rfl,⟨h2,⟨i,hi,rfl⟩|⟨hr,rfl⟩⟩|⟨h2,⟨i,hi,rfl⟩|rfl⟩⟩:=hd
  ·exact⟨jT (vO _ _ _ _),rfl,rfl,h1⟩
  ·refine⟨jT ?_,rfl,rfl,h1⟩;have:=ih.1;simp only[aC,JR,JS,Bool.or_eq_true,h2,dP,gL,cj]at this;simp only[aC,Fk,JR,JS,Bool.or_eq_true,dP,gL,cj,fA,k8];simp_all
  ·exact⟨jT (vO _ _ _ _),rfl,rfl,h1⟩
  ·refine⟨jT ?_,rfl,rfl,h1⟩;have:=ih.1;simp only[aC,JR,JS,Bool.or_eq_true,h2,dP,gL,cj]at this;simp only[aC,Ex,JR,JS,Bool.or_eq_true,dP,gL,cj,fA,k8];simp_all
theorem Bi {L:List Obj} {oid:Int} {n:Nat} {c:Cp} (h:c∈hX L oid n):aC (cw c)=true/\c.length=5/\bu (cw c)=c/\kZ (cw c)=true:=Gq c (mJ n c h)
end Go.Sx
