import Derived.Test.YtmfbohanboiklaaSpH
set_option linter.unusedSimpArgs false
set_option linter.unusedVariables false
namespace Go.Sx
theorem qT {α:Type} [DecidableEq α]:∀(l m:List α),l.Nodup->(∀x∈l,x∈m)->l.length<=m.length
 | [],m,_,_=>by simp
 |x::l,m,hn,hs=>by
  rw[List.nodup_cons]at hn;have h1:x∈m:=hs x (by simp)
  have h2:=qT l (m.erase x) hn.2 fun y hy=>(List.mem_erase_of_ne (fun e:y=x=>hn.1 (by rw[<-e];exact hy))).2 (hs y (by simp[hy]))
  rw[List.length_erase_of_mem h1]at h2;have:=List.length_pos_of_mem h1;simp only[List.length_cons];omega
theorem qa {F:List Cp} {k:Key} {c:Cp}:c∈qU F k↔c∈F\/(kh k=true/\c=a8 k):=by
 unfold qU eH;by_cases h:kh k=true<;>by_cases hm:a8 k∈F<;>simp[h,hm]
 rintro rfl;exact hm
theorem nB {F:List Cp} {f:Nat->Key} {c:Cp}:∀n:Nat,c∈sI F f n↔c∈F\/∃i,i<n/\kh (f i)=true/\c=a8 (f i)
 |0=>by simp[sI]
 |n+1=>by
  simp only[sI,qa,nB n];constructor
  ·rintro((h|⟨i,hi,h⟩)|h)
   ·exact .inl h
   ·exact .inr ⟨i,by omega,h⟩
   ·exact .inr ⟨n,by omega,h⟩
  ·rintro(h|⟨i,hi,h⟩)
   ·exact .inl (.inl h)
   ·rcases Nat.lt_or_ge i n with h1|h1
    ·exact .inl (.inr ⟨i,h1,h⟩)
    ·have:i=n:=by omega
     exact .inr (this▸h)
theorem oV {F:List Cp} {k:Key} (h:F.Nodup):(qU F k).Nodup:=by
 unfold qU eH;split
 ·rename_i hh;have hm:a8 k∉F:=Mx hh.2;rw[List.nodup_append];exact⟨h,by simp,fun a ha b hb=>by simp at hb;subst hb;exact fun e=>hm (e▸ha)⟩
 ·exact h
theorem iX {F:List Cp} {f:Nat->Key} (h:F.Nodup):∀n:Nat,(sI F f n).Nodup
 |0=>h
 |n+1=>oV (iX h n)
theorem qo (F:List Cp) (k:Key):F<+:qU F k:=by
 unfold qU;split
 ·exact List.prefix_append _ _
 ·exact List.prefix_refl _
theorem qe (F:List Cp) (f:Nat->Key):∀n:Nat,F<+:sI F f n
 |0=>List.prefix_refl _
 |n+1=>(qe F f n).trans (qo _ _)
theorem lq (S:CS) (f:Nat->Key):∀n:Nat,(E3 S f n).1.map (·.1)=sI (S.1.map (·.1)) f n
 |0=>rfl
 |n+1=>by simp only[E3,sI,nz,lq S f n]
theorem wD (L:List Obj) (S:CS) (k:Key):(Ck L S k).1.map (·.1)=CT L (S.1.map (·.1)) k:=by
 unfold Ck CT xq Iq EC Jp fa pd;split
 ·split
  ·rw[nz,lq]
  ·rw[lq]
 ·split
  ·rw[nz,lq]
  ·rfl
theorem BM {S:CS} {c:Cp} {n:Nat} (h:S.2=(S.1.map (·.1)).drop n) (hn:n<=S.1.length):(Js S c).2=((Js S c).1.map (·.1)).drop n:=by
 rw[wN];show(if cE S.1 c=true then S.2 else bj S.2 c)=_
 unfold bj;simp only[sA];split
 ·exact h
 ·rw[h,List.drop_append_of_le_length (by simpa using hn)]
theorem sf {S:CS} {k:Key} {n:Nat} (h:S.2=(S.1.map (·.1)).drop n) (hn:n<=S.1.length):(ki S k).2=((ki S k).1.map (·.1)).drop n:=by
 unfold ki;split
 ·exact BM h hn
 ·exact h
theorem F4 {S:CS} {k:Key}:S.1.length<=(ki S k).1.length:=by
 have:=(qo (S.1.map (·.1)) k).length_le;rw[<-nz]at this;simpa using this
theorem nm {S:CS} {f:Nat->Key} {n:Nat} (h:S.2=(S.1.map (·.1)).drop n) (hn:n<=S.1.length):∀m:Nat,(E3 S f m).2=((E3 S f m).1.map (·.1)).drop n/\n<=(E3 S f m).1.length
 |0=>⟨h,hn⟩
 |m+1=>by
  obtain⟨h1,h2⟩:=nm h hn m;exact⟨sf h1 h2,Nat.le_trans h2 F4⟩
theorem Cx {L:List Obj} {S:CS} {k:Key} {n:Nat} (h:S.2=(S.1.map (·.1)).drop n) (hn:n<=S.1.length):(Ck L S k).2=((Ck L S k).1.map (·.1)).drop n:=by
 unfold Ck xq EC fa;split
 ·obtain⟨h1,h2⟩:=nm (f:=ke L k.oid (bE k)) h hn (16:Int).toNat;split
  ·exact sf h1 h2
  ·exact h1
 ·split
  ·obtain⟨h1,h2⟩:=nm (f:=ke L k.oid false) h hn (16:Int).toNat;exact sf h1 h2
  ·exact h
theorem GP {L:List Obj} {S:CS} {k:Key} {n:Int} (h:kc S n):kc (Ck L S k) (n+17):=by
 unfold Ck xq EC fa;split
 ·have h1:=jZ (f:=ke L k.oid (bE k)) h (16:Int).toNat;split
  ·exact cN (u7 h1) (by omega)
  ·exact cN h1 (by omega)
 ·split
  ·have h1:=jZ (f:=ke L k.oid false) h (16:Int).toNat;exact cN (u7 h1) (by omega)
  ·exact cN h (by omega)
theorem wg (D:List (Cp×Int)) (c:Cp):aT D c=(D.map (·.1)).findIdx fun x=>decide (x=c):=by
 unfold aT;rw[List.findIdx_map];rfl
theorem zm {D:List (Cp×Int)} {c:Cp}:aT (aN D c) c=aT D c:=by
 by_cases h:cE D c=true
 ·unfold aN;rw[MB h]
 ·have hn:=sd h;rw[hn];unfold aN;rw[MA h];unfold aT at hn⊢;rw[List.findIdx_append,MA (by omega)]
  simp
theorem E2 {D:List (Cp×Int)} {c:Cp}:aV (aN D c) c=aV D c:=by
 by_cases h:cE D c=true
 ·unfold aN;rw[MB h]
 ·rw[uC h];unfold aV;rw[zm,sd h];unfold aN;rw[MA h];simp[ay,Mz]
theorem Gx {D:List (Cp×Int)} {c:Cp} {v:Int}:aV (cj (aN D c) (aT D c) v) c=v:=by
 have hi:aT (cj (aN D c) (aT D c) v) c=aT D c:=by rw[wg (cj _ _ _),wO,<-wg,zm]
 unfold aV;rw[hi];unfold cj ay;have:=Di (D:=D) (c:=c);rw[Mz,List.getElem?_set_self this];rfl
theorem z7 {S:CS} {c:Cp} (hS:kc S 1000000):br .i64 (aV S.1 c+1)/\uk S.1/\(0<=aZ (aT S.1 c)/\aZ (aT S.1 c)<((ae (aN S.1 c):Nat):Int))/\e9 (ae S.2) 40/\(aV S.1 c+1=1↔ ¬cE S.1 c=true):=by
 obtain⟨h1,h2,h3⟩:=hS
 have hg:0<=aV S.1 c/\aV S.1 c<=1000000/\(cE S.1 c=true->1<=aV S.1 c):=by
  by_cases hh:cE S.1 c=true
  ·have:=h3 _ (get_mem hh);have e:aV S.1 c=(ay S.1 (aT S.1 c) ([],0)).2:=rfl;exact⟨by omega,by omega,fun _=>by omega⟩
  ·rw[uC hh];exact⟨by omega,by omega,fun h=>absurd h hh⟩
 refine⟨?_,?_,⟨Int.natCast_nonneg _,?_⟩,?_,fun h h'=>?_,fun h=>?_⟩
 ·simp only[br,bJ];omega
 ·unfold uk;omega
 ·exact Int.ofNat_lt.2 Di
 ·unfold e9;simp only[maxLen,ae];omega
 ·have:=hg.2.2 h';omega
 ·rw[uC h];rfl
def Ld (L:List Obj) (c d:Cp):Prop:=∃k,kh k=true/\d=a8 k/\
 (((cq c).kind=2/\((∃i,i<16/\k=ke L (cq c).oid (bE (cq c)) i)\/((cq c).rights=0/\k=Da (cq c))))\/((cq c).kind=5/\((∃i,i<16/\k=ke L (cq c).oid false i)\/k=Dc (cq c))))
inductive Hr (L:List Obj) (oid:Int):Cp->Prop where
 |base (i:Nat):i<16->kh (ke L oid false i)=true->Hr L oid (a8 (ke L oid false i))
 |step (c d:Cp):Hr L oid c->Ld L c d->Hr L oid d
theorem Fz {L:List Obj} {F:List Cp} {c d:Cp}:d∈CT L F (cq c)↔d∈F\/Ld L c d:=by
 unfold CT Iq Jp pd Ld;have h16:(16:Int).toNat=16:=rfl;by_cases h2:(cq c).kind=2
 ·simp only[h2,if_true,true_and,h16];by_cases hr:(cq c).rights=0
  ·simp only[hr,if_true,qa,nB,true_and];constructor
   ·rintro((h|⟨i,hi,h1,h2⟩)|⟨h1,h2⟩)
    ·exact .inl h
    ·exact .inr ⟨_,h1,h2,.inl (.inl ⟨i,hi,rfl⟩)⟩
    ·exact .inr ⟨_,h1,h2,.inl (.inr rfl)⟩
   ·rintro(h|⟨k,h1,h2,(⟨i,hi,rfl⟩|rfl)|⟨h3,_⟩⟩)
    ·exact .inl (.inl h)
    ·exact .inl (.inr ⟨i,hi,h1,h2⟩)
    ·exact .inr ⟨h1,h2⟩
    ·omega
  ·simp only[hr,if_false,nB,false_and,or_false];constructor
   ·rintro(h|⟨i,hi,h1,h2⟩)
    ·exact .inl h
    ·exact .inr ⟨_,h1,h2,.inl ⟨i,hi,rfl⟩⟩
   ·rintro(h|⟨k,h1,h2,⟨i,hi,rfl⟩|⟨h3,_⟩⟩)
    ·exact .inl h
    ·exact .inr ⟨i,hi,h1,h2⟩
    ·omega
 ·by_cases h5:(cq c).kind=5
  ·have h52:¬(5:Int)=2:=by omega
   simp only[h5,h52,if_true,if_false,false_and,true_and,false_or,h16,qa,nB];constructor
   ·rintro((h|⟨i,hi,h1,h2⟩)|⟨h1,h2⟩)
    ·exact .inl h
    ·exact .inr ⟨_,h1,h2,.inl ⟨i,hi,rfl⟩⟩
    ·exact .inr ⟨_,h1,h2,.inr rfl⟩
   ·rintro(h|⟨k,h1,h2,⟨i,hi,rfl⟩|rfl⟩)
    ·exact .inl (.inl h)
    ·exact .inl (.inr ⟨i,hi,h1,h2⟩)
    ·exact .inr ⟨h1,h2⟩
  ·simp[h2,h5]
theorem AU {L:List Obj} {F:List Cp} {k:Key} (h:F.Nodup):(CT L F k).Nodup:=by
 unfold CT Iq Jp pd;split
 ·split
  ·exact oV (iX h _)
  ·exact iX h _
 ·split
  ·exact oV (iX h _)
  ·exact h
theorem zr (L:List Obj) (F:List Cp) (k:Key):F<+:CT L F k:=by
 unfold CT Iq Jp pd;split
 ·split
  ·exact(qe _ _ _).trans (qo _ _)
  ·exact qe _ _ _
 ·split
  ·exact(qe _ _ _).trans (qo _ _)
  ·exact List.prefix_refl _
theorem gF (L:List Obj) (oid:Int):∀n,(fF L oid n).Nodup
 |0=>iX (by simp) _
 |n+1=>by
  simp only[fF];split
  ·exact AU (gF L oid n)
  ·exact gF L oid n
theorem y9 (L:List Obj) (oid:Int) (n:Nat):∀m,fF L oid n<+:fF L oid (n+m)
 |0=>List.prefix_refl _
 |m+1=>by
  refine(y9 L oid n m).trans ?_;show _<+:fF L oid (n+m+1)
  rw[fF];split
  ·exact zr _ _ _
  ·exact List.prefix_refl _
theorem rC {L:List Obj} {oid:Int} {n:Nat} (h:(fF L oid n).length<=n):∀m,fF L oid (n+m)=fF L oid n
 |0=>rfl
 |m+1=>by
  show fF L oid (n+m+1)=_
  rw[fF,MA (by rw[rC h m];omega),rC h m]
theorem lN {L:List Obj} {oid:Int}:∀n c,c∈fF L oid n->Hr L oid c
 |0,c,h=>by
  unfold fF pd at h;rw[nB]at h;rcases h with h|⟨i,hi,h1,rfl⟩
  ·simp at h
  ·exact .base i hi h1
 |n+1,c,h=>by
  rw[fF]at h;split at h
  ·rename_i hlt;rcases Fz.1 h with h|h
   ·exact lN n c h
   ·refine .step _ _ (lN n _ ?_) h;unfold di ay;rw[Mz,List.getElem?_eq_getElem hlt];exact List.getElem_mem hlt
  ·exact lN n c h
def uV (L:List Obj):List Cp:=(List.range 64).flatMap fun(o:Nat)=>(List.range 16).flatMap fun(i:Nat)=> [a8 (ke L (o:Int) false i),a8 (ke L (o:Int) true i)]
def BC (L:List Obj):List Cp:=(uV L).map fun c=>a8 (Da (cq c))
def H6 (L:List Obj):List Cp:=(uV L++BC L).map fun c=>a8 (Dc (cq c))
def vM (L:List Obj):List Cp:=uV L++BC L++H6 L
theorem uM {α β:Type} {f:α->List β} {m:Nat} (h:∀x,(f x).length=m):∀l:List α,(l.flatMap f).length=l.length*m
 | []=>by simp
 |x::l=>by simp[uM h l,h,Nat.add_mul];omega
theorem GB (L:List Obj):(vM L).length=8192:=by
 have h:(uV L).length=2048:=by
  unfold uV;rw[uM (m:=32) (fun o=>by rw[uM (m:=2) (fun i=>rfl)];simp)]
  simp
 unfold vM H6 BC;simp[h]
theorem A2 (L:List Obj):bd L void=void:=by unfold bd;split<;>rfl
theorem wu:cx void=void:=by decide
theorem EW {L:List Obj} {oid:Int} {w:Bool} {i:Nat} (h:aE L oid≠0):ke L oid w i=void:=by
 unfold ke bR;rw[MA h];have:free.slots.at i=void:=rH i;rw[this,A2,wu];simp
theorem FW:kh void=false:=rfl
theorem vq {L:List Obj} {oid:Int} {w:Bool} {i:Nat} (hL:L.length<=64) (hi:i<16) (h:kh (ke L oid w i)=true):a8 (ke L oid w i)∈uV L:=by
 have hr:aE L oid=0:=by
  refine Decidable.byContradiction fun hn=>?_
  rw[EW hn,FW]at h;simp at h
 obtain⟨h0,h1⟩:=ff.1 hr;unfold uV;rw[List.mem_flatMap];refine⟨oid.toNat,by simp;omega,?_⟩
 rw[List.mem_flatMap];refine⟨i,by simpa using hi,?_⟩
 rw[show((oid.toNat:Nat):Int)=oid by omega]
 cases w<;>simp
theorem DL {L:List Obj} {oid:Int} (hL:L.length<=64):∀c,Hr L oid c->c∈vM L/\((cq c).kind=2->c∈uV L)/\((cq c).kind=5->c∈uV L++BC L):=by
 intro c h;induction h with
 |base i hi h1=>
  have:=vq hL hi h1;exact⟨by unfold vM;simp[this],fun _=>this,fun _=>by simp[this]⟩
 |step c d hc hd ih=>
  obtain⟨i1,i2,i3⟩:=ih;obtain⟨k,h1,rfl,⟨h2,⟨i,hi,rfl⟩|⟨hr,rfl⟩⟩|⟨h2,⟨i,hi,rfl⟩|rfl⟩⟩:=hd
  ·have:=vq hL hi h1;exact⟨by unfold vM;simp[this],fun _=>this,fun _=>by simp[this]⟩
  ·have:a8 (Da (cq c))∈BC L:=List.mem_map.2 ⟨c,i2 h2,rfl⟩;exact⟨by unfold vM;simp[this],fun h=>by simp[a8,cq,ay,Da]at h,fun _=>by simp[this]⟩
  ·have:=vq hL hi h1;exact⟨by unfold vM;simp[this],fun _=>this,fun _=>by simp[this]⟩
  ·have:a8 (Dc (cq c))∈H6 L:=List.mem_map.2 ⟨c,i3 h2,rfl⟩;exact⟨by unfold vM;simp[this],fun h=>by simp[a8,cq,ay,Dc]at h,fun h=>by simp[a8,cq,ay,Dc]at h⟩
theorem uy {L:List Obj} {oid:Int} (hL:L.length<=64) (n:Nat):(fF L oid n).length<=8192:=by
 rw[<-GB L];exact qT _ _ (gF L oid n) fun c hc=>(DL hL c (lN n c hc)).1
theorem vh {L:List Obj} {oid:Int} {n:Nat} (hn:n<=10000) (h:(fF L oid n).length<=n):vN L oid=fF L oid n:=by
 unfold vN;obtain⟨m,hm⟩:∃m,10000=n+m:=⟨10000-n,by omega⟩
 rw[hm];exact rC h m
theorem DT (L:List Obj) (oid:Int):(vN L oid).Nodup:=gF L oid _
theorem xY {k:Key} (h:aA k=true):aA (cx k)=true:=by
 unfold cx;rw[MB h];unfold eh;simp only[aA,Mu,Mv,Bool.or_eq_true]at h;split
 ·rename_i hk;simp only[aA,tQ,Mu,Mv,Bool.or_eq_true,hk,fK,eM,bB,cF]at h⊢
  have hw:0<=jI k.rights 3/\jI k.rights 3<=7:=by
   unfold jI cB;repeat' split
   all_goals omega
  simp_all
 ·split
  ·rename_i hk;simp only[aA,tQ,Mu,Mv,Bool.or_eq_true,hk,fK,eM,bB,cF]at h⊢;simp_all
  ·split
   ·simpa only[aA,Mu,Mv,Bool.or_eq_true]using h
   ·decide
theorem uz (L:List Obj) (oid:Int) (w:Bool) (i:Nat):aA (ke L oid w i)=true:=by
 unfold ke;split
 ·exact xY (jY _ _)
 ·exact jY _ _
theorem lA {k:Key} (h:aA k=true):aA (cq (a8 k))=true:=by
 simp only[aA,Mu,Mv,Bool.or_eq_true]at h⊢;exact⟨⟨⟨⟨h.1.1.1.1,.inr rfl⟩,h.1.1.2⟩,h.1.2⟩,h.2⟩
theorem IZ {L:List Obj} {oid:Int}:∀c,Hr L oid c->aA (cq c)=true/\c.length=5/\a8 (cq c)=c/\kh (cq c)=true:=by
 intro c h;induction h with
 |base i hi h1=>exact⟨lA (uz _ _ _ _),rfl,rfl,h1⟩
 |step c d hc hd ih=>
  obtain⟨k,h1,rfl,⟨h2,⟨i,hi,rfl⟩|⟨hr,rfl⟩⟩|⟨h2,⟨i,hi,rfl⟩|rfl⟩⟩:=hd
  ·exact⟨lA (uz _ _ _ _),rfl,rfl,h1⟩
  ·refine⟨lA ?_,rfl,rfl,h1⟩;have:=ih.1;simp only[aA,Mu,Mv,Bool.or_eq_true,h2,bB,cF,cy]at this;simp only[aA,Da,Mu,Mv,Bool.or_eq_true,bB,cF,cy,fK,eM];simp_all
  ·exact⟨lA (uz _ _ _ _),rfl,rfl,h1⟩
  ·refine⟨lA ?_,rfl,rfl,h1⟩;have:=ih.1;simp only[aA,Mu,Mv,Bool.or_eq_true,h2,bB,cF,cy]at this;simp only[aA,Dc,Mu,Mv,Bool.or_eq_true,bB,cF,cy,fK,eM];simp_all
theorem uU {L:List Obj} {oid:Int} {n:Nat} {c:Cp} (h:c∈fF L oid n):aA (cq c)=true/\c.length=5/\a8 (cq c)=c/\kh (cq c)=true:=IZ c (lN n c h)
end Go.Sx
