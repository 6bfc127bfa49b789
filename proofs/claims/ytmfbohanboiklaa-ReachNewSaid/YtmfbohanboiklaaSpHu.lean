import Derived.Test.YtmfbohanboiklaaSpH
set_option linter.unusedSimpArgs false
set_option linter.unusedVariables false
namespace Go.Sx
theorem sO {α:Type} [DecidableEq α]:∀(l m:List α),l.Nodup->(∀x∈l,x∈m)->l.length<=m.length
 | [],m,_,_=>by simp
 |x::l,m,hn,hs=>by
  rw[List.nodup_cons]at hn;have h1:x∈m:=hs x (by simp)
  have h2:=sO l (m.erase x) hn.2 fun y hy=>(List.mem_erase_of_ne (fun e:y=x=>hn.1 (by rw[<-e];exact hy))).2 (hs y (by simp[hy]))
  rw[List.length_erase_of_mem h1]at h2;have:=List.length_pos_of_mem h1;simp only[List.length_cons];omega
theorem qQ {F:List Cp} {k:Key} {c:Cp}:c∈sg F k↔c∈F\/(kU k=true/\c=bd k):=by
 unfold sg fb;by_cases h:kU k=true<;>by_cases hm:bd k∈F<;>simp[h,hm]
 rintro rfl;exact hm
theorem mw {F:List Cp} {f:Nat->Key} {c:Cp}:∀n:Nat,c∈tx F f n↔c∈F\/∃i,i<n/\kU (f i)=true/\c=bd (f i)
 |0=>by simp[tx]
 |n+1=>by
  simp only[tx,qQ,mw n];constructor
  ·rintro((h|⟨i,hi,h⟩)|h)
   ·exact .inl h
   ·exact .inr ⟨i,by omega,h⟩
   ·exact .inr ⟨n,by omega,h⟩
  ·rintro(h|⟨i,hi,h⟩)
   ·exact .inl (.inl h)
   ·rcases Nat.lt_or_ge i n with h1|h1
    ·exact .inl (.inr ⟨i,h1,h⟩)
    ·have:i=n:=by omega
     exact .inr (this▸h)
theorem pR {F:List Cp} {k:Key} (h:F.Nodup):(sg F k).Nodup:=by
 unfold sg fb;split
 ·rename_i hh;have hm:bd k∉F:=N6 hh.2;rw[List.nodup_append];exact⟨h,by simp,fun a ha b hb=>by simp at hb;subst hb;exact fun e=>hm (e▸ha)⟩
 ·exact h
theorem jN {F:List Cp} {f:Nat->Key} (h:F.Nodup):∀n:Nat,(tx F f n).Nodup
 |0=>h
 |n+1=>pR (jN h n)
theorem rq (F:List Cp) (k:Key):F<+:sg F k:=by
 unfold sg;split
 ·exact List.prefix_append _ _
 ·exact List.prefix_refl _
theorem rn (F:List Cp) (f:Nat->Key):∀n:Nat,F<+:tx F f n
 |0=>List.prefix_refl _
 |n+1=>(rn F f n).trans (rq _ _)
theorem lQ (S:CS) (f:Nat->Key):∀n:Nat,(Hg S f n).1.map (·.1)=tx (S.1.map (·.1)) f n
 |0=>rfl
 |n+1=>by simp only[Hg,tx,nW,lQ S f n]
theorem wN (L:List Obj) (S:CS) (k:Key):(C4 L S k).1.map (·.1)=C8 L (S.1.map (·.1)) k:=by
 unfold C4 C8 yk I3 FJ KV fB oC;split
 ·split
  ·rw[nW,lQ]
  ·rw[lQ]
 ·split
  ·rw[nW,lQ]
  ·rfl
theorem Dg {S:CS} {c:Cp} {n:Nat} (h:S.2=(S.1.map (·.1)).drop n) (hn:n<=S.1.length):(KR S c).2=((KR S c).1.map (·.1)).drop n:=by
 rw[xR];show(if cR S.1 c=true then S.2 else bg S.2 c)=_
 unfold bg;simp only[sY];split
 ·exact h
 ·rw[h,List.drop_append_of_le_length (by simpa using hn)]
theorem rV {S:CS} {k:Key} {n:Nat} (h:S.2=(S.1.map (·.1)).drop n) (hn:n<=S.1.length):(kW S k).2=((kW S k).1.map (·.1)).drop n:=by
 unfold kW;split
 ·exact Dg h hn
 ·exact h
theorem F6 {S:CS} {k:Key}:S.1.length<=(kW S k).1.length:=by
 have:=(rq (S.1.map (·.1)) k).length_le;rw[<-nW]at this;simpa using this
theorem nP {S:CS} {f:Nat->Key} {n:Nat} (h:S.2=(S.1.map (·.1)).drop n) (hn:n<=S.1.length):∀m:Nat,(Hg S f m).2=((Hg S f m).1.map (·.1)).drop n/\n<=(Hg S f m).1.length
 |0=>⟨h,hn⟩
 |m+1=>by
  obtain⟨h1,h2⟩:=nP h hn m;exact⟨rV h1 h2,Nat.le_trans h2 F6⟩
theorem D8 {L:List Obj} {S:CS} {k:Key} {n:Nat} (h:S.2=(S.1.map (·.1)).drop n) (hn:n<=S.1.length):(C4 L S k).2=((C4 L S k).1.map (·.1)).drop n:=by
 unfold C4 yk FJ fB;split
 ·obtain⟨h1,h2⟩:=nP (f:=kM L k.oid (bJ k)) h hn (16:Int).toNat;split
  ·exact rV h1 h2
  ·exact h1
 ·split
  ·obtain⟨h1,h2⟩:=nP (f:=kM L k.oid false) h hn (16:Int).toNat;exact rV h1 h2
  ·exact h
theorem Hs {L:List Obj} {S:CS} {k:Key} {n:Int} (h:kN S n):kN (C4 L S k) (n+17):=by
 unfold C4 yk FJ fB;split
 ·have h1:=j3 (f:=kM L k.oid (bJ k)) h (16:Int).toNat;split
  ·exact c8 (vA h1) (by omega)
  ·exact c8 h1 (by omega)
 ·split
  ·have h1:=j3 (f:=kM L k.oid false) h (16:Int).toNat;exact c8 (vA h1) (by omega)
  ·exact c8 h (by omega)
theorem xq (D:List (Cp×Int)) (c:Cp):aZ D c=(D.map (·.1)).findIdx fun x=>decide (x=c):=by
 unfold aZ;rw[List.findIdx_map];rfl
theorem As {D:List (Cp×Int)} {c:Cp}:aZ (aS D c) c=aZ D c:=by
 by_cases h:cR D c=true
 ·unfold aS;rw[Oa h]
 ·have hn:=sr h;rw[hn];unfold aS;rw[N9 h];unfold aZ at hn⊢;rw[List.findIdx_append,N9 (by omega)]
  simp
theorem G6 {D:List (Cp×Int)} {c:Cp}:ba (aS D c) c=ba D c:=by
 by_cases h:cR D c=true
 ·unfold aS;rw[Oa h]
 ·rw[ve h];unfold ba;rw[As,sr h];unfold aS;rw[N9 h];simp[ay,N8]
theorem GQ {D:List (Cp×Int)} {c:Cp} {v:Int}:ba (cB (aS D c) (aZ D c) v) c=v:=by
 have hi:aZ (cB (aS D c) (aZ D c) v) c=aZ D c:=by rw[xq (cB _ _ _),xa,<-xq,As]
 unfold ba;rw[hi];unfold cB ay;have:=Fx (D:=D) (c:=c);rw[N8,List.getElem?_set_self this];rfl
theorem Bo {S:CS} {c:Cp} (hS:kN S 1000000):aU .i64 (ba S.1 c+1)/\u4 S.1/\(0<=aG (aZ S.1 c)/\aG (aZ S.1 c)<((aa (aS S.1 c):Nat):Int))/\eC (aa S.2) 40/\(ba S.1 c+1=1↔ ¬cR S.1 c=true):=by
 obtain⟨h1,h2,h3⟩:=hS
 have hg:0<=ba S.1 c/\ba S.1 c<=1000000/\(cR S.1 c=true->1<=ba S.1 c):=by
  by_cases hh:cR S.1 c=true
  ·have:=h3 _ (get_mem hh);have e:ba S.1 c=(ay S.1 (aZ S.1 c) ([],0)).2:=rfl;exact⟨by omega,by omega,fun _=>by omega⟩
  ·rw[ve hh];exact⟨by omega,by omega,fun h=>absurd h hh⟩
 refine⟨?_,?_,⟨Int.natCast_nonneg _,?_⟩,?_,fun h h'=>?_,fun h=>?_⟩
 ·simp only[aU,bG];omega
 ·unfold u4;omega
 ·exact Int.ofNat_lt.2 Fx
 ·unfold eC;simp only[maxLen,aa];omega
 ·have:=hg.2.2 h';omega
 ·rw[ve h];rfl
def Ld (L:List Obj) (c d:Cp):Prop:=∃k,kU k=true/\d=bd k/\
 (((bc c).kind=2/\((∃i,i<16/\k=kM L (bc c).oid (bJ (bc c)) i)\/((bc c).rights=0/\k=D9 (bc c))))\/((bc c).kind=5/\((∃i,i<16/\k=kM L (bc c).oid false i)\/k=Fs (bc c))))
inductive GR (L:List Obj) (oid:Int):Cp->Prop where
 |base (i:Nat):i<16->kU (kM L oid false i)=true->GR L oid (bd (kM L oid false i))
 |step (c d:Cp):GR L oid c->Ld L c d->GR L oid d
theorem AD {L:List Obj} {F:List Cp} {c d:Cp}:d∈C8 L F (bc c)↔d∈F\/Ld L c d:=by
 unfold C8 I3 KV oC Ld;have h16:(16:Int).toNat=16:=rfl;by_cases h2:(bc c).kind=2
 ·simp only[h2,if_true,true_and,h16];by_cases hr:(bc c).rights=0
  ·simp only[hr,if_true,qQ,mw,true_and];constructor
   ·rintro((h|⟨i,hi,h1,h2⟩)|⟨h1,h2⟩)
    ·exact .inl h
    ·exact .inr ⟨_,h1,h2,.inl (.inl ⟨i,hi,rfl⟩)⟩
    ·exact .inr ⟨_,h1,h2,.inl (.inr rfl)⟩
   ·rintro(h|⟨k,h1,h2,(⟨i,hi,rfl⟩|rfl)|⟨h3,_⟩⟩)
    ·exact .inl (.inl h)
    ·exact .inl (.inr ⟨i,hi,h1,h2⟩)
    ·exact .inr ⟨h1,h2⟩
    ·omega
  ·simp only[hr,if_false,mw,false_and,or_false];constructor
   ·rintro(h|⟨i,hi,h1,h2⟩)
    ·exact .inl h
    ·exact .inr ⟨_,h1,h2,.inl ⟨i,hi,rfl⟩⟩
   ·rintro(h|⟨k,h1,h2,⟨i,hi,rfl⟩|⟨h3,_⟩⟩)
    ·exact .inl h
    ·exact .inr ⟨i,hi,h1,h2⟩
    ·omega
 ·by_cases h5:(bc c).kind=5
  ·have h52:¬(5:Int)=2:=by omega
   simp only[h5,h52,if_true,if_false,false_and,true_and,false_or,h16,qQ,mw];constructor
   ·rintro((h|⟨i,hi,h1,h2⟩)|⟨h1,h2⟩)
    ·exact .inl h
    ·exact .inr ⟨_,h1,h2,.inl ⟨i,hi,rfl⟩⟩
    ·exact .inr ⟨_,h1,h2,.inr rfl⟩
   ·rintro(h|⟨k,h1,h2,⟨i,hi,rfl⟩|rfl⟩)
    ·exact .inl (.inl h)
    ·exact .inl (.inr ⟨i,hi,h1,h2⟩)
    ·exact .inr ⟨h1,h2⟩
  ·simp[h2,h5]
theorem Cu {L:List Obj} {F:List Cp} {k:Key} (h:F.Nodup):(C8 L F k).Nodup:=by
 unfold C8 I3 KV oC;split
 ·split
  ·exact pR (jN h _)
  ·exact jN h _
 ·split
  ·exact pR (jN h _)
  ·exact h
theorem Ac (L:List Obj) (F:List Cp) (k:Key):F<+:C8 L F k:=by
 unfold C8 I3 KV oC;split
 ·split
  ·exact(rn _ _ _).trans (rq _ _)
  ·exact rn _ _ _
 ·split
  ·exact(rn _ _ _).trans (rq _ _)
  ·exact List.prefix_refl _
theorem hU (L:List Obj) (oid:Int):∀n,(fc L oid n).Nodup
 |0=>jN (by simp) _
 |n+1=>by
  simp only[fc];split
  ·exact Cu (hU L oid n)
  ·exact hU L oid n
theorem vV (L:List Obj) (oid:Int) (n:Nat):∀m,fc L oid n<+:fc L oid (n+m)
 |0=>List.prefix_refl _
 |m+1=>by
  refine(vV L oid n m).trans ?_;show _<+:fc L oid (n+m+1)
  rw[fc];split
  ·exact Ac _ _ _
  ·exact List.prefix_refl _
theorem ow {L:List Obj} {oid:Int} {n:Nat} (h:(fc L oid n).length<=n):∀m,fc L oid (n+m)=fc L oid n
 |0=>rfl
 |m+1=>by
  show fc L oid (n+m+1)=_
  rw[fc,N9 (by rw[ow h m];omega),ow h m]
theorem kh {L:List Obj} {oid:Int}:∀n c,c∈fc L oid n->GR L oid c
 |0,c,h=>by
  unfold fc oC at h;rw[mw]at h;rcases h with h|⟨i,hi,h1,rfl⟩
  ·simp at h
  ·exact .base i hi h1
 |n+1,c,h=>by
  rw[fc]at h;split at h
  ·rename_i hlt;rcases AD.1 h with h|h
   ·exact kh n c h
   ·refine .step _ _ (kh n _ ?_) h;unfold cw ay;rw[N8,List.getElem?_eq_getElem hlt];exact List.getElem_mem hlt
  ·exact kh n c h
def vu (L:List Obj):List Cp:=(List.range 64).flatMap fun(o:Nat)=>(List.range 16).flatMap fun(i:Nat)=> [bd (kM L (o:Int) false i),bd (kM L (o:Int) true i)]
def En (L:List Obj):List Cp:=(vu L).map fun c=>bd (D9 (bc c))
def Jk (L:List Obj):List Cp:=(vu L++En L).map fun c=>bd (Fs (bc c))
def wR (L:List Obj):List Cp:=vu L++En L++Jk L
theorem vp {α β:Type} {f:α->List β} {m:Nat} (h:∀x,(f x).length=m):∀l:List α,(l.flatMap f).length=l.length*m
 | []=>by simp
 |x::l=>by simp[vp h l,h,Nat.add_mul];omega
theorem Gj (L:List Obj):(wR L).length=8192:=by
 have h:(vu L).length=2048:=by
  unfold vu;rw[vp (m:=32) (fun o=>by rw[vp (m:=2) (fun i=>rfl)];simp)]
  simp
 unfold wR Jk En;simp[h]
theorem Cf (L:List Obj):bp L void=void:=by unfold bp;split<;>rfl
theorem wA:cE void=void:=by decide
theorem GP {L:List Obj} {oid:Int} {w:Bool} {i:Nat} (h:aC L oid≠0):kM L oid w i=void:=by
 unfold kM bm;rw[N9 h];have:free.slots.at i=void:=s8 i;rw[this,Cf,wA];simp
theorem GS:kU void=false:=rfl
theorem wj {L:List Obj} {oid:Int} {w:Bool} {i:Nat} (hL:L.length<=64) (hi:i<16) (h:kU (kM L oid w i)=true):bd (kM L oid w i)∈vu L:=by
 have hr:aC L oid=0:=by
  refine Decidable.byContradiction fun hn=>?_
  rw[GP hn,GS]at h;simp at h
 obtain⟨h0,h1⟩:=iB.1 hr;unfold vu;rw[List.mem_flatMap];refine⟨oid.toNat,by simp;omega,?_⟩
 rw[List.mem_flatMap];refine⟨i,by simpa using hi,?_⟩
 rw[show((oid.toNat:Nat):Int)=oid by omega]
 cases w<;>simp
theorem El {L:List Obj} {oid:Int} (hL:L.length<=64):∀c,GR L oid c->c∈wR L/\((bc c).kind=2->c∈vu L)/\((bc c).kind=5->c∈vu L++En L):=by
 intro c h;induction h with
 |base i hi h1=>
  have:=wj hL hi h1;exact⟨by unfold wR;simp[this],fun _=>this,fun _=>by simp[this]⟩
 |step c d hc hd ih=>
  obtain⟨i1,i2,i3⟩:=ih;obtain⟨k,h1,rfl,⟨h2,⟨i,hi,rfl⟩|⟨hr,rfl⟩⟩|⟨h2,⟨i,hi,rfl⟩|rfl⟩⟩:=hd
  ·have:=wj hL hi h1;exact⟨by unfold wR;simp[this],fun _=>this,fun _=>by simp[this]⟩
  ·have:bd (D9 (bc c))∈En L:=List.mem_map.2 ⟨c,i2 h2,rfl⟩;exact⟨by unfold wR;simp[this],fun h=>by simp[bd,bc,ay,D9]at h,fun _=>by simp[this]⟩
  ·have:=wj hL hi h1;exact⟨by unfold wR;simp[this],fun _=>this,fun _=>by simp[this]⟩
  ·have:bd (Fs (bc c))∈Jk L:=List.mem_map.2 ⟨c,i3 h2,rfl⟩;exact⟨by unfold wR;simp[this],fun h=>by simp[bd,bc,ay,Fs]at h,fun h=>by simp[bd,bc,ay,Fs]at h⟩
theorem mO {L:List Obj} {oid:Int} (hL:L.length<=64) (n:Nat):(fc L oid n).length<=8192:=by
 rw[<-Gj L];exact sO _ _ (hU L oid n) fun c hc=>(El hL c (kh n c hc)).1
theorem qV {L:List Obj} {oid:Int} {n:Nat} (hn:n<=10000) (h:(fc L oid n).length<=n):ny L oid=fc L oid n:=by
 unfold ny;obtain⟨m,hm⟩:∃m,10000=n+m:=⟨10000-n,by omega⟩
 rw[hm];exact ow h m
theorem vQ {L:List Obj} {oid:Int} (hL:L.length<=64):fc L oid 8192=ny L oid:=(qV (by omega) (mO hL _)).symm
theorem zs (L:List Obj) (oid:Int) {n:Nat} (hn:n<=10000):fc L oid n<+:ny L oid:=by
 unfold ny;obtain⟨m,hm⟩:∃m,10000=n+m:=⟨10000-n,by omega⟩
 rw[hm];exact vV L oid n m
theorem Ku {L:List Obj} {oid:Int} (hL:L.length<=64) {c:Cp}:c∈ny L oid↔GR L oid c:=by
 constructor
 ·exact kh _ c
 ·intro h;induction h with
  |base i hi h1=>
   refine(zs L oid (n:=0) (by omega)).subset ?_
   unfold fc oC;rw[mw];exact .inr ⟨i,hi,h1,rfl⟩
  |step c d hc hd ih=>
   obtain⟨n,hn,rfl⟩:=List.getElem_of_mem ih;rw[<-vQ hL]at hn;have hlt:n<8192:=Nat.lt_of_lt_of_le hn (mO hL _)
   have key:∀m,n<(fc L oid m).length->n<=m->Ld L ((ny L oid)[n]'(by rw[<-vQ hL];exact hn)) d->d∈fc L oid (n+1)\/(fc L oid n).length<=n:=fun m hm hnm hd=>by
    rcases Nat.lt_or_ge n (fc L oid n).length with hl|hl
    ·refine .inl ?_;rw[fc,Oa hl]
     have e:cw (fc L oid n) n=(ny L oid)[n]'(by rw[<-vQ hL];exact hn):=by
      unfold cw ay;rw[N8,List.getElem?_eq_getElem hl];exact(zs L oid (n:=n) (by omega)).getElem hl
     rw[AD,e];exact .inr hd
    ·exact .inr hl
   rcases key 8192 hn (by omega) hd with h|h
   ·exact(zs L oid (n:=n+1) (by omega)).subset h
   ·exfalso
    have:=ow h (8192-n);rw[show n+(8192-n)=8192 by omega]at this
    rw[this]at hn;omega
theorem sH (L:List Obj) (oid:Int):(ny L oid).Nodup:=hU L oid _
theorem yI {k:Key} (h:au k=true):au (cE k)=true:=by
 unfold cE;rw[Oa h];unfold eF;simp only[au,N3,N4,Bool.or_eq_true]at h;split
 ·rename_i hk;simp only[au,tQ,N3,N4,Bool.or_eq_true,hk,fk,fa,bk,cS]at h⊢
  have hw:0<=gE k.rights 3/\gE k.rights 3<=7:=by
   unfold gE cL;repeat' split
   all_goals omega
  simp_all
 ·split
  ·rename_i hk;simp only[au,tQ,N3,N4,Bool.or_eq_true,hk,fk,fa,bk,cS]at h⊢;simp_all
  ·split
   ·simpa only[au,N3,N4,Bool.or_eq_true]using h
   ·decide
theorem vW (L:List Obj) (oid:Int) (w:Bool) (i:Nat):au (kM L oid w i)=true:=by
 unfold kM;split
 ·exact yI (kC _ _)
 ·exact kC _ _
theorem lG {k:Key} (h:au k=true):au (bc (bd k))=true:=by
 simp only[au,N3,N4,Bool.or_eq_true]at h⊢;exact⟨⟨⟨⟨h.1.1.1.1,.inr rfl⟩,h.1.1.2⟩,h.1.2⟩,h.2⟩
theorem DG {L:List Obj} {oid:Int}:∀c,GR L oid c->au (bc c)=true/\c.length=5/\bd (bc c)=c/\kU (bc c)=true:=by
 intro c h;induction h with
 |base i hi h1=>exact⟨lG (vW _ _ _ _),rfl,rfl,h1⟩
 |step c d hc hd ih=>
  obtain⟨k,h1,rfl,⟨h2,⟨i,hi,rfl⟩|⟨hr,rfl⟩⟩|⟨h2,⟨i,hi,rfl⟩|rfl⟩⟩:=hd
  ·exact⟨lG (vW _ _ _ _),rfl,rfl,h1⟩
  ·refine⟨lG ?_,rfl,rfl,h1⟩;have:=ih.1;simp only[au,N3,N4,Bool.or_eq_true,h2,bk,cS,cH]at this;simp only[au,D9,N3,N4,Bool.or_eq_true,bk,cS,cH,fk,fa];simp_all
  ·exact⟨lG (vW _ _ _ _),rfl,rfl,h1⟩
  ·refine⟨lG ?_,rfl,rfl,h1⟩;have:=ih.1;simp only[au,N3,N4,Bool.or_eq_true,h2,bk,cS,cH]at this;simp only[au,Fs,N3,N4,Bool.or_eq_true,bk,cS,cH,fk,fa];simp_all
theorem pg {L:List Obj} {oid:Int} {n:Nat} {c:Cp} (h:c∈fc L oid n):au (bc c)=true/\c.length=5/\bd (bc c)=c/\kU (bc c)=true:=DG c (kh n c h)
end Go.Sx
