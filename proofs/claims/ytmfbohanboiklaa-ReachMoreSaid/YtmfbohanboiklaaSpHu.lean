import Derived.Test.YtmfbohanboiklaaSpH
set_option linter.unusedSimpArgs false
set_option linter.unusedVariables false
namespace Go.Sx
theorem s4 {α:Type} [DecidableEq α]:∀(l m:List α),l.Nodup->(∀x∈l,x∈m)->l.length<=m.length
 | [],m,_,_=>by simp
 |x::l,m,hn,hs=>by
  rw[List.nodup_cons]at hn;have h1:x∈m:=hs x (by simp)
  have h2:=s4 l (m.erase x) hn.2 fun y hy=>(List.mem_erase_of_ne (fun e:y=x=>hn.1 (by rw[<-e];exact hy))).2 (hs y (by simp[hy]))
  rw[List.length_erase_of_mem h1]at h2;have:=List.length_pos_of_mem h1;simp only[List.length_cons];omega
theorem rn {F:List Cp} {k:Key} {c:Cp}:c∈tj F k↔c∈F\/(gq k=true/\c=bc k):=by
 unfold tj eR;by_cases h:gq k=true<;>by_cases hm:bc k∈F<;>simp[h,hm]
 rintro rfl;exact hm
theorem mH {F:List Cp} {f:Nat->Key} {c:Cp}:∀n:Nat,c∈tx F f n↔c∈F\/∃i,i<n/\gq (f i)=true/\c=bc (f i)
 |0=>by simp[tx]
 |n+1=>by
  simp only[tx,rn,mH n];constructor
  ·rintro((h|⟨i,hi,h⟩)|h)
   ·exact .inl h
   ·exact .inr ⟨i,by omega,h⟩
   ·exact .inr ⟨n,by omega,h⟩
  ·rintro(h|⟨i,hi,h⟩)
   ·exact .inl (.inl h)
   ·rcases Nat.lt_or_ge i n with h1|h1
    ·exact .inl (.inr ⟨i,h1,h⟩)
    ·have:i=n:=by omega
     exact .inr (this▸h)
theorem pE {F:List Cp} {k:Key} (h:F.Nodup):(tj F k).Nodup:=by
 unfold tj eR;split
 ·rename_i hh;have hm:bc k∉F:=NT hh.2;rw[List.nodup_append];exact⟨h,by simp,fun a ha b hb=>by simp at hb;subst hb;exact fun e=>hm (e▸ha)⟩
 ·exact h
theorem jH {F:List Cp} {f:Nat->Key} (h:F.Nodup):∀n:Nat,(tx F f n).Nodup
 |0=>h
 |n+1=>pE (jH h n)
theorem qS (F:List Cp) (k:Key):F<+:tj F k:=by
 unfold tj;split
 ·exact List.prefix_append _ _
 ·exact List.prefix_refl _
theorem qW (F:List Cp) (f:Nat->Key):∀n:Nat,F<+:tx F f n
 |0=>List.prefix_refl _
 |n+1=>(qW F f n).trans (qS _ _)
theorem kQ (S:CS) (f:Nat->Key):∀n:Nat,(HU S f n).1.map (·.1)=tx (S.1.map (·.1)) f n
 |0=>rfl
 |n+1=>by simp only[HU,tx,pd,kQ S f n]
theorem xO (L:List Obj) (S:CS) (k:Key):(EI L S k).1.map (·.1)=Fb L (S.1.map (·.1)) k:=by
 unfold EI Fb yn J6 FI Kx fo oi;split
 ·split
  ·rw[pd,kQ]
  ·rw[kQ]
 ·split
  ·rw[pd,kQ]
  ·rfl
theorem Eb {S:CS} {c:Cp} {n:Nat} (h:S.2=(S.1.map (·.1)).drop n) (hn:n<=S.1.length):(KB S c).2=((KB S c).1.map (·.1)).drop n:=by
 rw[xq];show(if cQ S.1 c=true then S.2 else bg S.2 c)=_
 unfold bg;simp only[r7];split
 ·exact h
 ·rw[h,List.drop_append_of_le_length (by simpa using hn)]
theorem sg {S:CS} {k:Key} {n:Nat} (h:S.2=(S.1.map (·.1)).drop n) (hn:n<=S.1.length):(kK S k).2=((kK S k).1.map (·.1)).drop n:=by
 unfold kK;split
 ·exact Eb h hn
 ·exact h
theorem Gy {S:CS} {k:Key}:S.1.length<=(kK S k).1.length:=by
 have:=(qS (S.1.map (·.1)) k).length_le;rw[<-pd]at this;simpa using this
theorem nI {S:CS} {f:Nat->Key} {n:Nat} (h:S.2=(S.1.map (·.1)).drop n) (hn:n<=S.1.length):∀m:Nat,(HU S f m).2=((HU S f m).1.map (·.1)).drop n/\n<=(HU S f m).1.length
 |0=>⟨h,hn⟩
 |m+1=>by
  obtain⟨h1,h2⟩:=nI h hn m;exact⟨sg h1 h2,Nat.le_trans h2 Gy⟩
theorem DT {L:List Obj} {S:CS} {k:Key} {n:Nat} (h:S.2=(S.1.map (·.1)).drop n) (hn:n<=S.1.length):(EI L S k).2=((EI L S k).1.map (·.1)).drop n:=by
 unfold EI yn FI fo;split
 ·obtain⟨h1,h2⟩:=nI (f:=iH L k.oid (br k)) h hn (16:Int).toNat;split
  ·exact sg h1 h2
  ·exact h1
 ·split
  ·obtain⟨h1,h2⟩:=nI (f:=iH L k.oid false) h hn (16:Int).toNat;exact sg h1 h2
  ·exact h
theorem Gx {L:List Obj} {S:CS} {k:Key} {n:Int} (h:kG S n):kG (EI L S k) (n+17):=by
 unfold EI yn FI fo;split
 ·have h1:=kb (f:=iH L k.oid (br k)) h (16:Int).toNat;split
  ·exact c8 (vQ h1) (by omega)
  ·exact c8 h1 (by omega)
 ·split
  ·have h1:=kb (f:=iH L k.oid false) h (16:Int).toNat;exact c8 (vQ h1) (by omega)
  ·exact c8 h (by omega)
theorem xy (D:List (Cp×Int)) (c:Cp):aY D c=(D.map (·.1)).findIdx fun x=>decide (x=c):=by
 unfold aY;rw[List.findIdx_map];rfl
theorem Af {D:List (Cp×Int)} {c:Cp}:aY (aR D c) c=aY D c:=by
 by_cases h:cQ D c=true
 ·unfold aR;rw[NX h]
 ·have hn:=tn h;rw[hn];unfold aR;rw[NW h];unfold aY at hn⊢;rw[List.findIdx_append,NW (by omega)]
  simp
theorem Hw {D:List (Cp×Int)} {c:Cp}:bf (aR D c) c=bf D c:=by
 by_cases h:cQ D c=true
 ·unfold aR;rw[NX h]
 ·rw[wa h];unfold bf;rw[Af,tn h];unfold aR;rw[NW h];simp[aq,NV]
theorem Gv {D:List (Cp×Int)} {c:Cp} {v:Int}:bf (cz (aR D c) (aY D c) v) c=v:=by
 have hi:aY (cz (aR D c) (aY D c) v) c=aY D c:=by rw[xy (cz _ _ _),xp,<-xy,Af]
 unfold bf;rw[hi];unfold cz aq;have:=Fq (D:=D) (c:=c);rw[NV,List.getElem?_set_self this];rfl
theorem B2 {S:CS} {c:Cp} (hS:kG S 1000000):aO .i64 (bf S.1 c+1)/\uS S.1/\(0<=aJ (aY S.1 c)/\aJ (aY S.1 c)<((aa (aR S.1 c):Nat):Int))/\ep (aa S.2) 40/\(bf S.1 c+1=1↔ ¬cQ S.1 c=true):=by
 obtain⟨h1,h2,h3⟩:=hS
 have hg:0<=bf S.1 c/\bf S.1 c<=1000000/\(cQ S.1 c=true->1<=bf S.1 c):=by
  by_cases hh:cQ S.1 c=true
  ·have:=h3 _ (get_mem hh);have e:bf S.1 c=(aq S.1 (aY S.1 c) ([],0)).2:=rfl;exact⟨by omega,by omega,fun _=>by omega⟩
  ·rw[wa hh];exact⟨by omega,by omega,fun h=>absurd h hh⟩
 refine⟨?_,?_,⟨Int.natCast_nonneg _,?_⟩,?_,fun h h'=>?_,fun h=>?_⟩
 ·simp only[aO,bE];omega
 ·unfold uS;omega
 ·exact Int.ofNat_lt.2 Fq
 ·unfold ep;simp only[maxLen,aa];omega
 ·have:=hg.2.2 h';omega
 ·rw[wa h];rfl
def Ld (L:List Obj) (c d:Cp):Prop:=∃k,gq k=true/\d=bc k/\
 (((bP c).kind=2/\((∃i,i<16/\k=iH L (bP c).oid (br (bP c)) i)\/((bP c).rights=0/\k=DS (bP c))))\/((bP c).kind=5/\((∃i,i<16/\k=iH L (bP c).oid false i)\/k=D6 (bP c))))
inductive Cz (L:List Obj) (oid:Int):Cp->Prop where
 |base (i:Nat):i<16->gq (iH L oid false i)=true->Cz L oid (bc (iH L oid false i))
 |step (c d:Cp):Cz L oid c->Ld L c d->Cz L oid d
theorem AO {L:List Obj} {F:List Cp} {c d:Cp}:d∈Fb L F (bP c)↔d∈F\/Ld L c d:=by
 unfold Fb J6 Kx oi Ld;have h16:(16:Int).toNat=16:=rfl;by_cases h2:(bP c).kind=2
 ·simp only[h2,if_true,true_and,h16];by_cases hr:(bP c).rights=0
  ·simp only[hr,if_true,rn,mH,true_and];constructor
   ·rintro((h|⟨i,hi,h1,h2⟩)|⟨h1,h2⟩)
    ·exact .inl h
    ·exact .inr ⟨_,h1,h2,.inl (.inl ⟨i,hi,rfl⟩)⟩
    ·exact .inr ⟨_,h1,h2,.inl (.inr rfl)⟩
   ·rintro(h|⟨k,h1,h2,(⟨i,hi,rfl⟩|rfl)|⟨h3,_⟩⟩)
    ·exact .inl (.inl h)
    ·exact .inl (.inr ⟨i,hi,h1,h2⟩)
    ·exact .inr ⟨h1,h2⟩
    ·omega
  ·simp only[hr,if_false,mH,false_and,or_false];constructor
   ·rintro(h|⟨i,hi,h1,h2⟩)
    ·exact .inl h
    ·exact .inr ⟨_,h1,h2,.inl ⟨i,hi,rfl⟩⟩
   ·rintro(h|⟨k,h1,h2,⟨i,hi,rfl⟩|⟨h3,_⟩⟩)
    ·exact .inl h
    ·exact .inr ⟨i,hi,h1,h2⟩
    ·omega
 ·by_cases h5:(bP c).kind=5
  ·have h52:¬(5:Int)=2:=by omega
   simp only[h5,h52,if_true,if_false,false_and,true_and,false_or,h16,rn,mH];constructor
   ·rintro((h|⟨i,hi,h1,h2⟩)|⟨h1,h2⟩)
    ·exact .inl h
    ·exact .inr ⟨_,h1,h2,.inl ⟨i,hi,rfl⟩⟩
    ·exact .inr ⟨_,h1,h2,.inr rfl⟩
   ·rintro(h|⟨k,h1,h2,⟨i,hi,rfl⟩|rfl⟩)
    ·exact .inl (.inl h)
    ·exact .inl (.inr ⟨i,hi,h1,h2⟩)
    ·exact .inr ⟨h1,h2⟩
  ·simp[h2,h5]
theorem Bq {L:List Obj} {F:List Cp} {k:Key} (h:F.Nodup):(Fb L F k).Nodup:=by
 unfold Fb J6 Kx oi;split
 ·split
  ·exact pE (jH h _)
  ·exact jH h _
 ·split
  ·exact pE (jH h _)
  ·exact h
theorem Aa (L:List Obj) (F:List Cp) (k:Key):F<+:Fb L F k:=by
 unfold Fb J6 Kx oi;split
 ·split
  ·exact(qW _ _ _).trans (qS _ _)
  ·exact qW _ _ _
 ·split
  ·exact(qW _ _ _).trans (qS _ _)
  ·exact List.prefix_refl _
theorem gT (L:List Obj) (oid:Int):∀n,(fc L oid n).Nodup
 |0=>jH (by simp) _
 |n+1=>by
  simp only[fc];split
  ·exact Bq (gT L oid n)
  ·exact gT L oid n
theorem vf (L:List Obj) (oid:Int) (n:Nat):∀m,fc L oid n<+:fc L oid (n+m)
 |0=>List.prefix_refl _
 |m+1=>by
  refine(vf L oid n m).trans ?_;show _<+:fc L oid (n+m+1)
  rw[fc];split
  ·exact Aa _ _ _
  ·exact List.prefix_refl _
theorem oI {L:List Obj} {oid:Int} {n:Nat} (h:(fc L oid n).length<=n):∀m,fc L oid (n+m)=fc L oid n
 |0=>rfl
 |m+1=>by
  show fc L oid (n+m+1)=_
  rw[fc,NW (by rw[oI h m];omega),oI h m]
theorem jQ {L:List Obj} {oid:Int}:∀n c,c∈fc L oid n->Cz L oid c
 |0,c,h=>by
  unfold fc oi at h;rw[mH]at h;rcases h with h|⟨i,hi,h1,rfl⟩
  ·simp at h
  ·exact .base i hi h1
 |n+1,c,h=>by
  rw[fc]at h;split at h
  ·rename_i hlt;rcases AO.1 h with h|h
   ·exact jQ n c h
   ·refine .step _ _ (jQ n _ ?_) h;unfold cJ aq;rw[NV,List.getElem?_eq_getElem hlt];exact List.getElem_mem hlt
  ·exact jQ n c h
def vC (L:List Obj):List Cp:=(List.range 64).flatMap fun(o:Nat)=>(List.range 16).flatMap fun(i:Nat)=> [bc (iH L (o:Int) false i),bc (iH L (o:Int) true i)]
def CG (L:List Obj):List Cp:=(vC L).map fun c=>bc (DS (bP c))
def JL (L:List Obj):List Cp:=(vC L++CG L).map fun c=>bc (D6 (bP c))
def xu (L:List Obj):List Cp:=vC L++CG L++JL L
theorem vA {α β:Type} {f:α->List β} {m:Nat} (h:∀x,(f x).length=m):∀l:List α,(l.flatMap f).length=l.length*m
 | []=>by simp
 |x::l=>by simp[vA h l,h,Nat.add_mul];omega
theorem Hz (L:List Obj):(xu L).length=8192:=by
 have h:(vC L).length=2048:=by
  unfold vC;rw[vA (m:=32) (fun o=>by rw[vA (m:=2) (fun i=>rfl)];simp)]
  simp
 unfold xu JL CG;simp[h]
theorem pU (L:List Obj):aT L void=void:=by unfold aT;split<;>rfl
theorem qh:cD void=void:=by decide
theorem z6 {L:List Obj} {oid:Int} {w:Bool} {i:Nat} (h:az L oid≠0):iH L oid w i=void:=by
 unfold iH bS;rw[NW h];have:free.slots.at i=void:=nw i;rw[this,pU,qh];simp
theorem vi:gq void=false:=rfl
theorem vU {L:List Obj} {oid:Int} {w:Bool} {i:Nat} (hL:L.length<=64) (hi:i<16) (h:gq (iH L oid w i)=true):bc (iH L oid w i)∈vC L:=by
 have hr:az L oid=0:=by
  refine Decidable.byContradiction fun hn=>?_
  rw[z6 hn,vi]at h;simp at h
 obtain⟨h0,h1⟩:=de.1 hr;unfold vC;rw[List.mem_flatMap];refine⟨oid.toNat,by simp;omega,?_⟩
 rw[List.mem_flatMap];refine⟨i,by simpa using hi,?_⟩
 rw[show((oid.toNat:Nat):Int)=oid by omega]
 cases w<;>simp
theorem CW {L:List Obj} {oid:Int} (hL:L.length<=64):∀c,Cz L oid c->c∈xu L/\((bP c).kind=2->c∈vC L)/\((bP c).kind=5->c∈vC L++CG L):=by
 intro c h;induction h with
 |base i hi h1=>
  have:=vU hL hi h1;exact⟨by unfold xu;simp[this],fun _=>this,fun _=>by simp[this]⟩
 |step c d hc hd ih=>
  obtain⟨i1,i2,i3⟩:=ih;obtain⟨k,h1,rfl,⟨h2,⟨i,hi,rfl⟩|⟨hr,rfl⟩⟩|⟨h2,⟨i,hi,rfl⟩|rfl⟩⟩:=hd
  ·have:=vU hL hi h1;exact⟨by unfold xu;simp[this],fun _=>this,fun _=>by simp[this]⟩
  ·have:bc (DS (bP c))∈CG L:=List.mem_map.2 ⟨c,i2 h2,rfl⟩;exact⟨by unfold xu;simp[this],fun h=>by simp[bc,bP,aq,DS]at h,fun _=>by simp[this]⟩
  ·have:=vU hL hi h1;exact⟨by unfold xu;simp[this],fun _=>this,fun _=>by simp[this]⟩
  ·have:bc (D6 (bP c))∈JL L:=List.mem_map.2 ⟨c,i3 h2,rfl⟩;exact⟨by unfold xu;simp[this],fun h=>by simp[bc,bP,aq,D6]at h,fun h=>by simp[bc,bP,aq,D6]at h⟩
theorem jP {L:List Obj} {oid:Int} (hL:L.length<=64) (n:Nat):(fc L oid n).length<=8192:=by
 rw[<-Hz L];exact s4 _ _ (gT L oid n) fun c hc=>(CW hL c (jQ n c hc)).1
theorem rq {L:List Obj} {oid:Int} {n:Nat} (hn:n<=10000) (h:(fc L oid n).length<=n):la L oid=fc L oid n:=by
 unfold la;obtain⟨m,hm⟩:∃m,10000=n+m:=⟨10000-n,by omega⟩
 rw[hm];exact oI h m
theorem vN {L:List Obj} {oid:Int} (hL:L.length<=64):fc L oid 8192=la L oid:=(rq (by omega) (jP hL _)).symm
theorem zw (L:List Obj) (oid:Int) {n:Nat} (hn:n<=10000):fc L oid n<+:la L oid:=by
 unfold la;obtain⟨m,hm⟩:∃m,10000=n+m:=⟨10000-n,by omega⟩
 rw[hm];exact vf L oid n m
theorem C3 {L:List Obj} {oid:Int} (hL:L.length<=64) {c:Cp}:c∈la L oid↔Cz L oid c:=by
 constructor
 ·exact jQ _ c
 ·intro h;induction h with
  |base i hi h1=>
   refine(zw L oid (n:=0) (by omega)).subset ?_
   unfold fc oi;rw[mH];exact .inr ⟨i,hi,h1,rfl⟩
  |step c d hc hd ih=>
   obtain⟨n,hn,rfl⟩:=List.getElem_of_mem ih;rw[<-vN hL]at hn;have hlt:n<8192:=Nat.lt_of_lt_of_le hn (jP hL _)
   have key:∀m,n<(fc L oid m).length->n<=m->Ld L ((la L oid)[n]'(by rw[<-vN hL];exact hn)) d->d∈fc L oid (n+1)\/(fc L oid n).length<=n:=fun m hm hnm hd=>by
    rcases Nat.lt_or_ge n (fc L oid n).length with hl|hl
    ·refine .inl ?_;rw[fc,NX hl]
     have e:cJ (fc L oid n) n=(la L oid)[n]'(by rw[<-vN hL];exact hn):=by
      unfold cJ aq;rw[NV,List.getElem?_eq_getElem hl];exact(zw L oid (n:=n) (by omega)).getElem hl
     rw[AO,e];exact .inr hd
    ·exact .inr hl
   rcases key 8192 hn (by omega) hd with h|h
   ·exact(zw L oid (n:=n+1) (by omega)).subset h
   ·exfalso
    have:=oI h (8192-n);rw[show n+(8192-n)=8192 by omega]at this
    rw[this]at hn;omega
theorem oP (L:List Obj) (oid:Int):(la L oid).Nodup:=gT L oid _
theorem yU {k:Key} (h:aw k=true):aw (cD k)=true:=by
 unfold cD;rw[NX h];unfold cI;simp only[aw,NP,NQ,Bool.or_eq_true]at h;split
 ·rename_i hk;simp only[aw,ua,NP,NQ,Bool.or_eq_true,hk,fU,eV,bG,cP]at h⊢
  have hw:0<=gw k.rights 3/\gw k.rights 3<=7:=by
   unfold gw cA;repeat' split
   all_goals omega
  simp_all
 ·split
  ·rename_i hk;simp only[aw,ua,NP,NQ,Bool.or_eq_true,hk,fU,eV,bG,cP]at h⊢;simp_all
  ·split
   ·simpa only[aw,NP,NQ,Bool.or_eq_true]using h
   ·decide
theorem vg (L:List Obj) (oid:Int) (w:Bool) (i:Nat):aw (iH L oid w i)=true:=by
 unfold iH;split
 ·exact yU (kh _ _)
 ·exact kh _ _
theorem kX {k:Key} (h:aw k=true):aw (bP (bc k))=true:=by
 simp only[aw,NP,NQ,Bool.or_eq_true]at h⊢;exact⟨⟨⟨⟨h.1.1.1.1,.inr rfl⟩,h.1.1.2⟩,h.1.2⟩,h.2⟩
theorem DY {L:List Obj} {oid:Int}:∀c,Cz L oid c->aw (bP c)=true/\c.length=5/\bc (bP c)=c/\gq (bP c)=true:=by
 intro c h;induction h with
 |base i hi h1=>exact⟨kX (vg _ _ _ _),rfl,rfl,h1⟩
 |step c d hc hd ih=>
  obtain⟨k,h1,rfl,⟨h2,⟨i,hi,rfl⟩|⟨hr,rfl⟩⟩|⟨h2,⟨i,hi,rfl⟩|rfl⟩⟩:=hd
  ·exact⟨kX (vg _ _ _ _),rfl,rfl,h1⟩
  ·refine⟨kX ?_,rfl,rfl,h1⟩;have:=ih.1;simp only[aw,NP,NQ,Bool.or_eq_true,h2,bG,cP,cF]at this;simp only[aw,DS,NP,NQ,Bool.or_eq_true,bG,cP,cF,fU,eV];simp_all
  ·exact⟨kX (vg _ _ _ _),rfl,rfl,h1⟩
  ·refine⟨kX ?_,rfl,rfl,h1⟩;have:=ih.1;simp only[aw,NP,NQ,Bool.or_eq_true,h2,bG,cP,cF]at this;simp only[aw,D6,NP,NQ,Bool.or_eq_true,bG,cP,cF,fU,eV];simp_all
theorem nf {L:List Obj} {oid:Int} {n:Nat} {c:Cp} (h:c∈fc L oid n):aw (bP c)=true/\c.length=5/\bc (bP c)=c/\gq (bP c)=true:=DY c (jQ n c h)
end Go.Sx
