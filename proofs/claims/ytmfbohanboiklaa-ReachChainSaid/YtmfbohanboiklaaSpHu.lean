import Derived.Test.YtmfbohanboiklaaSpH
set_option linter.unusedSimpArgs false
set_option linter.unusedVariables false
namespace Go.Sx
theorem sm {α:Type} [DecidableEq α]:∀(l m:List α),l.Nodup->(∀x∈l,x∈m)->l.length<=m.length
 | [],m,_,_=>by simp
 |x::l,m,hn,hs=>by
  rw[List.nodup_cons]at hn;have h1:x∈m:=hs x (by simp)
  have h2:=sm l (m.erase x) hn.2 fun y hy=>(List.mem_erase_of_ne (fun e:y=x=>hn.1 (by rw[<-e];exact hy))).2 (hs y (by simp[hy]))
  rw[List.length_erase_of_mem h1]at h2;have:=List.length_pos_of_mem h1;simp only[List.length_cons];omega
theorem qB {F:List Cp} {k:Key} {c:Cp}:c∈rJ F k↔c∈F\/(gJ k=true/\c=bd k):=by
 unfold rJ eN;by_cases h:gJ k=true<;>by_cases hm:bd k∈F<;>simp[h,hm]
 rintro rfl;exact hm
theorem mc {F:List Cp} {f:Nat->Key} {c:Cp}:∀n:Nat,c∈td F f n↔c∈F\/∃i,i<n/\gJ (f i)=true/\c=bd (f i)
 |0=>by simp[td]
 |n+1=>by
  simp only[td,qB,mc n];constructor
  ·rintro((h|⟨i,hi,h⟩)|h)
   ·exact .inl h
   ·exact .inr ⟨i,by omega,h⟩
   ·exact .inr ⟨n,by omega,h⟩
  ·rintro(h|⟨i,hi,h⟩)
   ·exact .inl (.inl h)
   ·rcases Nat.lt_or_ge i n with h1|h1
    ·exact .inl (.inr ⟨i,h1,h⟩)
    ·have:i=n:=by omega
     exact .inr (this▸h)
theorem oS {F:List Cp} {k:Key} (h:F.Nodup):(rJ F k).Nodup:=by
 unfold rJ eN;split
 ·rename_i hh;have hm:bd k∉F:=Nb hh.2;rw[List.nodup_append];exact⟨h,by simp,fun a ha b hb=>by simp at hb;subst hb;exact fun e=>hm (e▸ha)⟩
 ·exact h
theorem ji {F:List Cp} {f:Nat->Key} (h:F.Nodup):∀n:Nat,(td F f n).Nodup
 |0=>h
 |n+1=>oS (ji h n)
theorem qC (F:List Cp) (k:Key):F<+:rJ F k:=by
 unfold rJ;split
 ·exact List.prefix_append _ _
 ·exact List.prefix_refl _
theorem qn (F:List Cp) (f:Nat->Key):∀n:Nat,F<+:td F f n
 |0=>List.prefix_refl _
 |n+1=>(qn F f n).trans (qC _ _)
theorem kH (S:CS) (f:Nat->Key):∀n:Nat,(Hg S f n).1.map (·.1)=td (S.1.map (·.1)) f n
 |0=>rfl
 |n+1=>by simp only[Hg,td,nG,kH S f n]
theorem xt (L:List Obj) (S:CS) (k:Key):(Dz L S k).1.map (·.1)=Ev L (S.1.map (·.1)) k:=by
 unfold Dz Ev xY Ii Fc JW fi ou;split
 ·split
  ·rw[nG,kH]
  ·rw[kH]
 ·split
  ·rw[nG,kH]
  ·rfl
theorem Ef {S:CS} {c:Cp} {n:Nat} (h:S.2=(S.1.map (·.1)).drop n) (hn:n<=S.1.length):(JX S c).2=((JX S c).1.map (·.1)).drop n:=by
 rw[xH];show(if cI S.1 c=true then S.2 else ba S.2 c)=_
 unfold ba;simp only[sV];split
 ·exact h
 ·rw[h,List.drop_append_of_le_length (by simpa using hn)]
theorem rZ {S:CS} {k:Key} {n:Nat} (h:S.2=(S.1.map (·.1)).drop n) (hn:n<=S.1.length):(kz S k).2=((kz S k).1.map (·.1)).drop n:=by
 unfold kz;split
 ·exact Ef h hn
 ·exact h
theorem GC {S:CS} {k:Key}:S.1.length<=(kz S k).1.length:=by
 have:=(qC (S.1.map (·.1)) k).length_le;rw[<-nG]at this;simpa using this
theorem nF {S:CS} {f:Nat->Key} {n:Nat} (h:S.2=(S.1.map (·.1)).drop n) (hn:n<=S.1.length):∀m:Nat,(Hg S f m).2=((Hg S f m).1.map (·.1)).drop n/\n<=(Hg S f m).1.length
 |0=>⟨h,hn⟩
 |m+1=>by
  obtain⟨h1,h2⟩:=nF h hn m;exact⟨rZ h1 h2,Nat.le_trans h2 GC⟩
theorem DP {L:List Obj} {S:CS} {k:Key} {n:Nat} (h:S.2=(S.1.map (·.1)).drop n) (hn:n<=S.1.length):(Dz L S k).2=((Dz L S k).1.map (·.1)).drop n:=by
 unfold Dz xY Fc fi;split
 ·obtain⟨h1,h2⟩:=nF (f:=jj L k.oid (bq k)) h hn (16:Int).toNat;split
  ·exact rZ h1 h2
  ·exact h1
 ·split
  ·obtain⟨h1,h2⟩:=nF (f:=jj L k.oid false) h hn (16:Int).toNat;exact rZ h1 h2
  ·exact h
theorem Fy {L:List Obj} {S:CS} {k:Key} {n:Int} (h:kp S n):kp (Dz L S k) (n+17):=by
 unfold Dz xY Fc fi;split
 ·have h1:=kf (f:=jj L k.oid (bq k)) h (16:Int).toNat;split
  ·exact cX (vA h1) (by omega)
  ·exact cX h1 (by omega)
 ·split
  ·have h1:=kf (f:=jj L k.oid false) h (16:Int).toNat;exact cX (vA h1) (by omega)
  ·exact cX h (by omega)
theorem wM (D:List (Cp×Int)) (c:Cp):aV D c=(D.map (·.1)).findIdx fun x=>decide (x=c):=by
 unfold aV;rw[List.findIdx_map];rfl
theorem Ah {D:List (Cp×Int)} {c:Cp}:aV (aQ D c) c=aV D c:=by
 by_cases h:cI D c=true
 ·unfold aQ;rw[Ng h]
 ·have hn:=ri h;rw[hn];unfold aQ;rw[Nf h];unfold aV at hn⊢;rw[List.findIdx_append,Nf (by omega)]
  simp
theorem FL {D:List (Cp×Int)} {c:Cp}:aZ (aQ D c) c=aZ D c:=by
 by_cases h:cI D c=true
 ·unfold aQ;rw[Ng h]
 ·rw[vE h];unfold aZ;rw[Ah,ri h];unfold aQ;rw[Nf h];simp[au,Nd]
theorem G6 {D:List (Cp×Int)} {c:Cp} {v:Int}:aZ (cq (aQ D c) (aV D c) v) c=v:=by
 have hi:aV (cq (aQ D c) (aV D c) v) c=aV D c:=by rw[wM (cq _ _ _),wF,<-wM,Ah]
 unfold aZ;rw[hi];unfold cq au;have:=Fa (D:=D) (c:=c);rw[Nd,List.getElem?_set_self this];rfl
theorem Bc {S:CS} {c:Cp} (hS:kp S 1000000):aP .i64 (aZ S.1 c+1)/\tA S.1/\(0<=aK (aV S.1 c)/\aK (aV S.1 c)<((aa (aQ S.1 c):Nat):Int))/\eh (aa S.2) 40/\(aZ S.1 c+1=1↔ ¬cI S.1 c=true):=by
 obtain⟨h1,h2,h3⟩:=hS
 have hg:0<=aZ S.1 c/\aZ S.1 c<=1000000/\(cI S.1 c=true->1<=aZ S.1 c):=by
  by_cases hh:cI S.1 c=true
  ·have:=h3 _ (get_mem hh);have e:aZ S.1 c=(au S.1 (aV S.1 c) ([],0)).2:=rfl;exact⟨by omega,by omega,fun _=>by omega⟩
  ·rw[vE hh];exact⟨by omega,by omega,fun h=>absurd h hh⟩
 refine⟨?_,?_,⟨Int.natCast_nonneg _,?_⟩,?_,fun h h'=>?_,fun h=>?_⟩
 ·simp only[aP,bC];omega
 ·unfold tA;omega
 ·exact Int.ofNat_lt.2 Fa
 ·unfold eh;simp only[maxLen,aa];omega
 ·have:=hg.2.2 h';omega
 ·rw[vE h];rfl
def Ld (L:List Obj) (c d:Cp):Prop:=∃k,gJ k=true/\d=bd k/\
 (((bX c).kind=2/\((∃i,i<16/\k=jj L (bX c).oid (bq (bX c)) i)\/((bX c).rights=0/\k=Eo (bX c))))\/((bX c).kind=5/\((∃i,i<16/\k=jj L (bX c).oid false i)\/k=Cx (bX c))))
inductive FN (L:List Obj) (oid:Int):Cp->Prop where
 |base (i:Nat):i<16->gJ (jj L oid false i)=true->FN L oid (bd (jj L oid false i))
 |step (c d:Cp):FN L oid c->Ld L c d->FN L oid d
theorem zU {L:List Obj} {F:List Cp} {c d:Cp}:d∈Ev L F (bX c)↔d∈F\/Ld L c d:=by
 unfold Ev Ii JW ou Ld;have h16:(16:Int).toNat=16:=rfl;by_cases h2:(bX c).kind=2
 ·simp only[h2,if_true,true_and,h16];by_cases hr:(bX c).rights=0
  ·simp only[hr,if_true,qB,mc,true_and];constructor
   ·rintro((h|⟨i,hi,h1,h2⟩)|⟨h1,h2⟩)
    ·exact .inl h
    ·exact .inr ⟨_,h1,h2,.inl (.inl ⟨i,hi,rfl⟩)⟩
    ·exact .inr ⟨_,h1,h2,.inl (.inr rfl)⟩
   ·rintro(h|⟨k,h1,h2,(⟨i,hi,rfl⟩|rfl)|⟨h3,_⟩⟩)
    ·exact .inl (.inl h)
    ·exact .inl (.inr ⟨i,hi,h1,h2⟩)
    ·exact .inr ⟨h1,h2⟩
    ·omega
  ·simp only[hr,if_false,mc,false_and,or_false];constructor
   ·rintro(h|⟨i,hi,h1,h2⟩)
    ·exact .inl h
    ·exact .inr ⟨_,h1,h2,.inl ⟨i,hi,rfl⟩⟩
   ·rintro(h|⟨k,h1,h2,⟨i,hi,rfl⟩|⟨h3,_⟩⟩)
    ·exact .inl h
    ·exact .inr ⟨i,hi,h1,h2⟩
    ·omega
 ·by_cases h5:(bX c).kind=5
  ·have h52:¬(5:Int)=2:=by omega
   simp only[h5,h52,if_true,if_false,false_and,true_and,false_or,h16,qB,mc];constructor
   ·rintro((h|⟨i,hi,h1,h2⟩)|⟨h1,h2⟩)
    ·exact .inl h
    ·exact .inr ⟨_,h1,h2,.inl ⟨i,hi,rfl⟩⟩
    ·exact .inr ⟨_,h1,h2,.inr rfl⟩
   ·rintro(h|⟨k,h1,h2,⟨i,hi,rfl⟩|rfl⟩)
    ·exact .inl (.inl h)
    ·exact .inl (.inr ⟨i,hi,h1,h2⟩)
    ·exact .inr ⟨h1,h2⟩
  ·simp[h2,h5]
theorem Bp {L:List Obj} {F:List Cp} {k:Key} (h:F.Nodup):(Ev L F k).Nodup:=by
 unfold Ev Ii JW ou;split
 ·split
  ·exact oS (ji h _)
  ·exact ji h _
 ·split
  ·exact oS (ji h _)
  ·exact h
theorem zo (L:List Obj) (F:List Cp) (k:Key):F<+:Ev L F k:=by
 unfold Ev Ii JW ou;split
 ·split
  ·exact(qn _ _ _).trans (qC _ _)
  ·exact qn _ _ _
 ·split
  ·exact(qn _ _ _).trans (qC _ _)
  ·exact List.prefix_refl _
theorem gP (L:List Obj) (oid:Int):∀n,(eV L oid n).Nodup
 |0=>ji (by simp) _
 |n+1=>by
  simp only[eV];split
  ·exact Bp (gP L oid n)
  ·exact gP L oid n
theorem uP (L:List Obj) (oid:Int) (n:Nat):∀m,eV L oid n<+:eV L oid (n+m)
 |0=>List.prefix_refl _
 |m+1=>by
  refine(uP L oid n m).trans ?_;show _<+:eV L oid (n+m+1)
  rw[eV];split
  ·exact zo _ _ _
  ·exact List.prefix_refl _
theorem oL {L:List Obj} {oid:Int} {n:Nat} (h:(eV L oid n).length<=n):∀m,eV L oid (n+m)=eV L oid n
 |0=>rfl
 |m+1=>by
  show eV L oid (n+m+1)=_
  rw[eV,Nf (by rw[oL h m];omega),oL h m]
theorem j9 {L:List Obj} {oid:Int}:∀n c,c∈eV L oid n->FN L oid c
 |0,c,h=>by
  unfold eV ou at h;rw[mc]at h;rcases h with h|⟨i,hi,h1,rfl⟩
  ·simp at h
  ·exact .base i hi h1
 |n+1,c,h=>by
  rw[eV]at h;split at h
  ·rename_i hlt;rcases zU.1 h with h|h
   ·exact j9 n c h
   ·refine .step _ _ (j9 n _ ?_) h;unfold cT au;rw[Nd,List.getElem?_eq_getElem hlt];exact List.getElem_mem hlt
  ·exact j9 n c h
def vx (L:List Obj):List Cp:=(List.range 64).flatMap fun(o:Nat)=>(List.range 16).flatMap fun(i:Nat)=> [bd (jj L (o:Int) false i),bd (jj L (o:Int) true i)]
def Ck (L:List Obj):List Cp:=(vx L).map fun c=>bd (Eo (bX c))
def H3 (L:List Obj):List Cp:=(vx L++Ck L).map fun c=>bd (Cx (bX c))
def xM (L:List Obj):List Cp:=vx L++Ck L++H3 L
theorem vp {α β:Type} {f:α->List β} {m:Nat} (h:∀x,(f x).length=m):∀l:List α,(l.flatMap f).length=l.length*m
 | []=>by simp
 |x::l=>by simp[vp h l,h,Nat.add_mul];omega
theorem Gg (L:List Obj):(xM L).length=8192:=by
 have h:(vx L).length=2048:=by
  unfold vx;rw[vp (m:=32) (fun o=>by rw[vp (m:=2) (fun i=>rfl)];simp)]
  simp
 unfold xM H3 Ck;simp[h]
theorem uJ (L:List Obj):bc L void=void:=by unfold bc;split<;>rfl
theorem w9:cz void=void:=by decide
theorem Fj {L:List Obj} {oid:Int} {w:Bool} {i:Nat} (h:aC L oid≠0):jj L oid w i=void:=by
 unfold jj bS;rw[Nf h];have:free.slots.at i=void:=mV i;rw[this,uJ,w9];simp
theorem GH:gJ void=false:=rfl
theorem vQ {L:List Obj} {oid:Int} {w:Bool} {i:Nat} (hL:L.length<=64) (hi:i<16) (h:gJ (jj L oid w i)=true):bd (jj L oid w i)∈vx L:=by
 have hr:aC L oid=0:=by
  refine Decidable.byContradiction fun hn=>?_
  rw[Fj hn,GH]at h;simp at h
 obtain⟨h0,h1⟩:=ec.1 hr;unfold vx;rw[List.mem_flatMap];refine⟨oid.toNat,by simp;omega,?_⟩
 rw[List.mem_flatMap];refine⟨i,by simpa using hi,?_⟩
 rw[show((oid.toNat:Nat):Int)=oid by omega]
 cases w<;>simp
theorem D8 {L:List Obj} {oid:Int} (hL:L.length<=64):∀c,FN L oid c->c∈xM L/\((bX c).kind=2->c∈vx L)/\((bX c).kind=5->c∈vx L++Ck L):=by
 intro c h;induction h with
 |base i hi h1=>
  have:=vQ hL hi h1;exact⟨by unfold xM;simp[this],fun _=>this,fun _=>by simp[this]⟩
 |step c d hc hd ih=>
  obtain⟨i1,i2,i3⟩:=ih;obtain⟨k,h1,rfl,⟨h2,⟨i,hi,rfl⟩|⟨hr,rfl⟩⟩|⟨h2,⟨i,hi,rfl⟩|rfl⟩⟩:=hd
  ·have:=vQ hL hi h1;exact⟨by unfold xM;simp[this],fun _=>this,fun _=>by simp[this]⟩
  ·have:bd (Eo (bX c))∈Ck L:=List.mem_map.2 ⟨c,i2 h2,rfl⟩;exact⟨by unfold xM;simp[this],fun h=>by simp[bd,bX,au,Eo]at h,fun _=>by simp[this]⟩
  ·have:=vQ hL hi h1;exact⟨by unfold xM;simp[this],fun _=>this,fun _=>by simp[this]⟩
  ·have:bd (Cx (bX c))∈H3 L:=List.mem_map.2 ⟨c,i3 h2,rfl⟩;exact⟨by unfold xM;simp[this],fun h=>by simp[bd,bX,au,Cx]at h,fun h=>by simp[bd,bX,au,Cx]at h⟩
theorem mw {L:List Obj} {oid:Int} (hL:L.length<=64) (n:Nat):(eV L oid n).length<=8192:=by
 rw[<-Gg L];exact sm _ _ (gP L oid n) fun c hc=>(D8 hL c (j9 n c hc)).1
theorem qO {L:List Obj} {oid:Int} {n:Nat} (hn:n<=10000) (h:(eV L oid n).length<=n):nk L oid=eV L oid n:=by
 unfold nk;obtain⟨m,hm⟩:∃m,10000=n+m:=⟨10000-n,by omega⟩
 rw[hm];exact oL h m
theorem vG {L:List Obj} {oid:Int} (hL:L.length<=64):eV L oid 8192=nk L oid:=(qO (by omega) (mw hL _)).symm
theorem yK (L:List Obj) (oid:Int) {n:Nat} (hn:n<=10000):eV L oid n<+:nk L oid:=by
 unfold nk;obtain⟨m,hm⟩:∃m,10000=n+m:=⟨10000-n,by omega⟩
 rw[hm];exact uP L oid n m
theorem H4 {L:List Obj} {oid:Int} (hL:L.length<=64) {c:Cp}:c∈nk L oid↔FN L oid c:=by
 constructor
 ·exact j9 _ c
 ·intro h;induction h with
  |base i hi h1=>
   refine(yK L oid (n:=0) (by omega)).subset ?_
   unfold eV ou;rw[mc];exact .inr ⟨i,hi,h1,rfl⟩
  |step c d hc hd ih=>
   obtain⟨n,hn,rfl⟩:=List.getElem_of_mem ih;rw[<-vG hL]at hn;have hlt:n<8192:=Nat.lt_of_lt_of_le hn (mw hL _)
   have key:∀m,n<(eV L oid m).length->n<=m->Ld L ((nk L oid)[n]'(by rw[<-vG hL];exact hn)) d->d∈eV L oid (n+1)\/(eV L oid n).length<=n:=fun m hm hnm hd=>by
    rcases Nat.lt_or_ge n (eV L oid n).length with hl|hl
    ·refine .inl ?_;rw[eV,Ng hl]
     have e:cT (eV L oid n) n=(nk L oid)[n]'(by rw[<-vG hL];exact hn):=by
      unfold cT au;rw[Nd,List.getElem?_eq_getElem hl];exact(yK L oid (n:=n) (by omega)).getElem hl
     rw[zU,e];exact .inr hd
    ·exact .inr hl
   rcases key 8192 hn (by omega) hd with h|h
   ·exact(yK L oid (n:=n+1) (by omega)).subset h
   ·exfalso
    have:=oL h (8192-n);rw[show n+(8192-n)=8192 by omega]at this
    rw[this]at hn;omega
theorem wh (L:List Obj) (oid:Int):(nk L oid).Nodup:=gP L oid _
theorem yo {k:Key} (h:aB k=true):aB (cz k)=true:=by
 unfold cz;rw[Ng h];unfold cA;simp only[aB,M8,M9,Bool.or_eq_true]at h;split
 ·rename_i hk;simp only[aB,uM,M8,M9,Bool.or_eq_true,hk,fK,eQ,bE,cL]at h⊢
  have hw:0<=gr k.rights 3/\gr k.rights 3<=7:=by
   unfold gr cr;repeat' split
   all_goals omega
  simp_all
 ·split
  ·rename_i hk;simp only[aB,uM,M8,M9,Bool.or_eq_true,hk,fK,eQ,bE,cL]at h⊢;simp_all
  ·split
   ·simpa only[aB,M8,M9,Bool.or_eq_true]using h
   ·decide
theorem vN (L:List Obj) (oid:Int) (w:Bool) (i:Nat):aB (jj L oid w i)=true:=by
 unfold jj;split
 ·exact yo (jX _ _)
 ·exact jX _ _
theorem kM {k:Key} (h:aB k=true):aB (bX (bd k))=true:=by
 simp only[aB,M8,M9,Bool.or_eq_true]at h⊢;exact⟨⟨⟨⟨h.1.1.1.1,.inr rfl⟩,h.1.1.2⟩,h.1.2⟩,h.2⟩
theorem Jz {L:List Obj} {oid:Int}:∀c,FN L oid c->aB (bX c)=true/\c.length=5/\bd (bX c)=c/\gJ (bX c)=true:=by
 intro c h;induction h with
 |base i hi h1=>exact⟨kM (vN _ _ _ _),rfl,rfl,h1⟩
 |step c d hc hd ih=>
  obtain⟨k,h1,rfl,⟨h2,⟨i,hi,rfl⟩|⟨hr,rfl⟩⟩|⟨h2,⟨i,hi,rfl⟩|rfl⟩⟩:=hd
  ·exact⟨kM (vN _ _ _ _),rfl,rfl,h1⟩
  ·refine⟨kM ?_,rfl,rfl,h1⟩;have:=ih.1;simp only[aB,M8,M9,Bool.or_eq_true,h2,bE,cL,cC]at this;simp only[aB,Eo,M8,M9,Bool.or_eq_true,bE,cL,cC,fK,eQ];simp_all
  ·exact⟨kM (vN _ _ _ _),rfl,rfl,h1⟩
  ·refine⟨kM ?_,rfl,rfl,h1⟩;have:=ih.1;simp only[aB,M8,M9,Bool.or_eq_true,h2,bE,cL,cC]at this;simp only[aB,Cx,M8,M9,Bool.or_eq_true,bE,cL,cC,fK,eQ];simp_all
theorem sw {L:List Obj} {oid:Int} {n:Nat} {c:Cp} (h:c∈eV L oid n):aB (bX c)=true/\c.length=5/\bd (bX c)=c/\gJ (bX c)=true:=Jz c (j9 n c h)
end Go.Sx
