import Derived.Test.YtmfbohanboiklaaGreatDoorSpH
set_option linter.unusedSimpArgs false
set_option linter.unusedVariables false
namespace Go.Sx
theorem rW{α:Type}[DecidableEq α]:∀(l m:List α),l.Nodup->(∀x∈l,x∈m)->l.length<=m.length
 | [],m,_,_=>by simp
 |x::l,m,hn,hs=>by
  rw[List.nodup_cons]at hn;have h1:x∈m:=hs x (by simp)
  have h2:=rW l (m.erase x) hn.2 fun y hy=>(List.mem_erase_of_ne (fun e:y=x=>hn.1 (by rw[<-e];exact hy))).2 (hs y (by simp[hy]))
  rw[List.length_erase_of_mem h1]at h2;have:=List.length_pos_of_mem h1;simp only[List.length_cons];omega
theorem uM{F:List Cp}{k:Key}{c:Cp}:c∈C5 F k↔c∈F\/(mn k=true/\c=b6 k):=by
 unfold C5 yT;by_cases h:mn k=true<;>by_cases hm:b6 k∈F<;>simp[h,hm]
 rintro rfl;exact hm
theorem nk{F:List Cp}{f:Nat->Key}{c:Cp}:∀n:Nat,c∈FH F f n↔c∈F\/∃i,i<n/\mn (f i)=true/\c=b6 (f i)
 |0=>by simp[FH]
 |n+1=>by
  simp only[FH,uM,nk n];constructor
  ·rintro((h|⟨i,hi,h⟩)|h)
   ·exact .inl h
   ·exact .inr ⟨i,by omega,h⟩
   ·exact .inr ⟨n,by omega,h⟩
  ·rintro(h|⟨i,hi,h⟩)
   ·exact .inl (.inl h)
   ·rcases Nat.lt_or_ge i n with h1|h1
    ·exact .inl (.inr ⟨i,h1,h⟩)
    ·have:i=n:=by omega
     exact .inr (this▸h)
theorem oP{F:List Cp}{k:Key}(h:F.Nodup):(C5 F k).Nodup:=by
 unfold C5 yT;split
 ·rename_i hh;have hm:b6 k∉F:=ak hh.2;rw[List.nodup_append];exact⟨h,by simp,fun a ha b hb=>by simp at hb;subst hb;exact fun e=>hm (e▸ha)⟩
 ·exact h
theorem jl{F:List Cp}{f:Nat->Key}(h:F.Nodup):∀n:Nat,(FH F f n).Nodup
 |0=>h
 |n+1=>oP (jl h n)
theorem qh(F:List Cp)(k:Key):F<+:C5 F k:=by
 unfold C5;split
 ·exact List.prefix_append _ _
 ·exact List.prefix_refl _
theorem qp(F:List Cp)(f:Nat->Key):∀n:Nat,F<+:FH F f n
 |0=>List.prefix_refl _
 |n+1=>(qp F f n).trans (qh _ _)
theorem kH(S:CS)(f:Nat->Key):∀n:Nat,(FC S f n).1.map (·.1)=FH (S.1.map (·.1)) f n
 |0=>rfl
 |n+1=>by simp only[FC,FH,ng,kH S f n]
theorem vP(L:List Obj)(S:CS)(k:Key):(De L S k).1.map (·.1)=Ep L (S.1.map (·.1)) k:=by
 unfold De Ep xz Jn Er JK ft uQ;split
 ·split
  ·rw[ng,kH]
  ·rw[kH]
 ·split
  ·rw[ng,kH]
  ·rfl
theorem Dx{S:CS}{c:Cp}{n:Nat}(h:S.2=(S.1.map (·.1)).drop n)(hn:n<=S.1.length):(Jc S c).2=((Jc S c).1.map (·.1)).drop n:=by
 rw[vS];show(if cU S.1 c=true then S.2 else bN S.2 c)=_
 unfold bN;simp only[sg];split
 ·exact h
 ·rw[h,List.drop_append_of_le_length (by simpa using hn)]
theorem qP{S:CS}{k:Key}{n:Nat}(h:S.2=(S.1.map (·.1)).drop n)(hn:n<=S.1.length):(kq S k).2=((kq S k).1.map (·.1)).drop n:=by
 unfold kq;split
 ·exact Dx h hn
 ·exact h
theorem Ez{S:CS}{k:Key}:S.1.length<=(kq S k).1.length:=by
 have:=(qh (S.1.map (·.1)) k).length_le;rw[<-ng]at this;simpa using this
theorem ny{S:CS}{f:Nat->Key}{n:Nat}(h:S.2=(S.1.map (·.1)).drop n)(hn:n<=S.1.length):∀m:Nat,(FC S f m).2=((FC S f m).1.map (·.1)).drop n/\n<=(FC S f m).1.length
 |0=>⟨h,hn⟩
 |m+1=>by
  obtain⟨h1,h2⟩:=ny h hn m;exact⟨qP h1 h2,Nat.le_trans h2 Ez⟩
theorem B5{L:List Obj}{S:CS}{k:Key}{n:Nat}(h:S.2=(S.1.map (·.1)).drop n)(hn:n<=S.1.length):(De L S k).2=((De L S k).1.map (·.1)).drop n:=by
 unfold De xz Er ft;split
 ·obtain⟨h1,h2⟩:=ny (f:=p5 L k.oid (dP k)) h hn (16:Int).toNat;split
  ·exact qP h1 h2
  ·exact h1
 ·split
  ·obtain⟨h1,h2⟩:=ny (f:=p5 L k.oid false) h hn (16:Int).toNat;exact qP h1 h2
  ·exact h
theorem Eu{L:List Obj}{S:CS}{k:Key}{n:Int}(h:kc S n):kc (De L S k) (n+17):=by
 unfold De xz Er ft;split
 ·have h1:=jQ (f:=p5 L k.oid (dP k)) h (16:Int).toNat;split
  ·exact df (uS h1) (by omega)
  ·exact df h1 (by omega)
 ·split
  ·have h1:=jQ (f:=p5 L k.oid false) h (16:Int).toNat;exact df (uS h1) (by omega)
  ·exact df h (by omega)
theorem vA(D:List (Cp×Int))(c:Cp):bu D c=(D.map (·.1)).findIdx fun x=>decide (x=c):=by
 unfold bu;rw[List.findIdx_map];rfl
theorem zK{D:List (Cp×Int)}{c:Cp}:bu (bn D c) c=bu D c:=by
 by_cases h:cU D c=true
 ·unfold bn;rw[au h]
 ·have hn:=rU h;rw[hn];unfold bn;rw[ar h];unfold bu at hn⊢;rw[List.findIdx_append,ar (by omega)]
  simp
theorem EU{D:List (Cp×Int)}{c:Cp}:bx (bn D c) c=bx D c:=by
 by_cases h:cU D c=true
 ·unfold bn;rw[au h]
 ·rw[u4 h];unfold bx;rw[zK,rU h];unfold bn;rw[ar h];simp[aX,aq]
theorem FP{D:List (Cp×Int)}{c:Cp}{v:Int}:bx (cD (bn D c) (bu D c) v) c=v:=by
 have hi:bu (cD (bn D c) (bu D c) v) c=bu D c:=by rw[vA (cD _ _ _),vr,<-vA,zK]
 unfold bx;rw[hi];unfold cD aX;have:=CL (D:=D) (c:=c);rw[aq,List.getElem?_set_self this];rfl
theorem Ar{S:CS}{c:Cp}(hS:kc S 1000000):dI .i64 (bx S.1 c+1)/\sT S.1/\(0<=cW (bu S.1 c)/\cW (bu S.1 c)<((aN (bn S.1 c):Nat):Int))/\cV (aN S.2) 40/\(bx S.1 c+1=1↔ ¬cU S.1 c=true):=by
 obtain⟨h1,h2,h3⟩:=hS
 have hg:0<=bx S.1 c/\bx S.1 c<=1000000/\(cU S.1 c=true->1<=bx S.1 c):=by
  by_cases hh:cU S.1 c=true
  ·have:=h3 _ (get_mem hh);have e:bx S.1 c=(aX S.1 (bu S.1 c) ([],0)).2:=rfl;exact⟨by omega,by omega,fun _=>by omega⟩
  ·rw[u4 hh];exact⟨by omega,by omega,fun h=>absurd h hh⟩
 refine⟨?_,?_,⟨Int.natCast_nonneg _,?_⟩,?_,fun h h'=>?_,fun h=>?_⟩
 ·simp only[dI,bU];omega
 ·unfold sT;omega
 ·exact Int.ofNat_lt.2 CL
 ·unfold cV;simp only[maxLen,aN];omega
 ·have:=hg.2.2 h';omega
 ·rw[u4 h];rfl
def Ld(L:List Obj)(c d:Cp):Prop:=∃k,mn k=true/\d=b6 k/\
 (((cT c).kind=2/\((∃i,i<16/\k=p5 L (cT c).oid (dP (cT c)) i)\/((cT c).rights=0/\k=IZ (cT c))))\/((cT c).kind=5/\((∃i,i<16/\k=p5 L (cT c).oid false i)\/k=GM (cT c))))
inductive I9 (L:List Obj) (oid:Int):Cp->Prop where
 |base (i:Nat):i<16->mn (p5 L oid false i)=true->I9 L oid (b6 (p5 L oid false i))
 |step (c d:Cp):I9 L oid c->Ld L c d->I9 L oid d
theorem Gm{L:List Obj}{F:List Cp}{c d:Cp}:d∈Ep L F (cT c)↔d∈F\/Ld L c d:=by
 unfold Ep Jn JK uQ Ld;have h16:(16:Int).toNat=16:=rfl;by_cases h2:(cT c).kind=2
 ·simp only[h2,if_true,true_and,h16];by_cases hr:(cT c).rights=0
  ·simp only[hr,if_true,uM,nk,true_and];constructor
   ·rintro((h|⟨i,hi,h1,h2⟩)|⟨h1,h2⟩)
    ·exact .inl h
    ·exact .inr ⟨_,h1,h2,.inl (.inl ⟨i,hi,rfl⟩)⟩
    ·exact .inr ⟨_,h1,h2,.inl (.inr rfl)⟩
   ·rintro(h|⟨k,h1,h2,(⟨i,hi,rfl⟩|rfl)|⟨h3,_⟩⟩)
    ·exact .inl (.inl h)
    ·exact .inl (.inr ⟨i,hi,h1,h2⟩)
    ·exact .inr ⟨h1,h2⟩
    ·omega
  ·simp only[hr,if_false,nk,false_and,or_false];constructor
   ·rintro(h|⟨i,hi,h1,h2⟩)
    ·exact .inl h
    ·exact .inr ⟨_,h1,h2,.inl ⟨i,hi,rfl⟩⟩
   ·rintro(h|⟨k,h1,h2,⟨i,hi,rfl⟩|⟨h3,_⟩⟩)
    ·exact .inl h
    ·exact .inr ⟨i,hi,h1,h2⟩
    ·omega
 ·by_cases h5:(cT c).kind=5
  ·have h52:¬(5:Int)=2:=by omega
   simp only[h5,h52,if_true,if_false,false_and,true_and,false_or,h16,uM,nk];constructor
   ·rintro((h|⟨i,hi,h1,h2⟩)|⟨h1,h2⟩)
    ·exact .inl h
    ·exact .inr ⟨_,h1,h2,.inl ⟨i,hi,rfl⟩⟩
    ·exact .inr ⟨_,h1,h2,.inr rfl⟩
   ·rintro(h|⟨k,h1,h2,⟨i,hi,rfl⟩|rfl⟩)
    ·exact .inl (.inl h)
    ·exact .inl (.inr ⟨i,hi,h1,h2⟩)
    ·exact .inr ⟨h1,h2⟩
  ·simp[h2,h5]
theorem Bs{L:List Obj}{F:List Cp}{k:Key}(h:F.Nodup):(Ep L F k).Nodup:=by
 unfold Ep Jn JK uQ;split
 ·split
  ·exact oP (jl h _)
  ·exact jl h _
 ·split
  ·exact oP (jl h _)
  ·exact h
theorem Gu(L:List Obj)(F:List Cp)(k:Key):F<+:Ep L F k:=by
 unfold Ep Jn JK uQ;split
 ·split
  ·exact(qp _ _ _).trans (qh _ _)
  ·exact qp _ _ _
 ·split
  ·exact(qp _ _ _).trans (qh _ _)
  ·exact List.prefix_refl _
theorem lZ(L:List Obj)(oid:Int):∀n,(jf L oid n).Nodup
 |0=>jl (by simp) _
 |n+1=>by
  simp only[jf];split
  ·exact Bs (lZ L oid n)
  ·exact lZ L oid n
theorem rF{L:List Obj}{oid:Int}{n:Nat}(h:(jf L oid n).length<=n):∀m,jf L oid (n+m)=jf L oid n
 |0=>rfl
 |m+1=>by
  show jf L oid (n+m+1)=_
  rw[jf,ar (by rw[rF h m];omega),rF h m]
theorem oc{L:List Obj}{oid:Int}:∀n c,c∈jf L oid n->I9 L oid c
 |0,c,h=>by
  unfold jf uQ at h;rw[nk]at h;rcases h with h|⟨i,hi,h1,rfl⟩
  ·simp at h
  ·exact .base i hi h1
 |n+1,c,h=>by
  rw[jf]at h;split at h
  ·rename_i hlt;rcases Gm.1 h with h|h
   ·exact oc n c h
   ·refine .step _ _ (oc n _ ?_) h;unfold gI aX;rw[aq,List.getElem?_eq_getElem hlt];exact List.getElem_mem hlt
  ·exact oc n c h
def uX(L:List Obj):List Cp:=(List.range 64).flatMap fun(o:Nat)=>(List.range 16).flatMap fun(i:Nat)=> [b6 (p5 L (o:Int) false i),b6 (p5 L (o:Int) true i)]
def BQ(L:List Obj):List Cp:=(uX L).map fun c=>b6 (IZ (cT c))
def I4(L:List Obj):List Cp:=(uX L++BQ L).map fun c=>b6 (GM (cT c))
def xd(L:List Obj):List Cp:=uX L++BQ L++I4 L
theorem uT{α β:Type}{f:α->List β}{m:Nat}(h:∀x,(f x).length=m):∀l:List α,(l.flatMap f).length=l.length*m
 | []=>by simp
 |x::l=>by simp[uT h l,h,Nat.add_mul];omega
theorem Fm(L:List Obj):(xd L).length=8192:=by
 have h:(uX L).length=2048:=by
  unfold uX;rw[uT (m:=32) (fun o=>by rw[uT (m:=2) (fun i=>rfl)];simp)]
  simp
 unfold xd I4 BQ;simp[h]
theorem AY(L:List Obj):dE L void=void:=by unfold dE;split<;>rfl
theorem vY:dA void=void:=by decide
theorem EA{L:List Obj}{oid:Int}{w:Bool}{i:Nat}(h:bm L oid≠0):p5 L oid w i=void:=by
 unfold p5 cB;rw[ar h];have:free.slots.at i=void:=r6 i;rw[this,AY,vY];simp
theorem FJ:mn void=false:=rfl
theorem vl{L:List Obj}{oid:Int}{w:Bool}{i:Nat}(hL:L.length<=64)(hi:i<16)(h:mn (p5 L oid w i)=true):b6 (p5 L oid w i)∈uX L:=by
 have hr:bm L oid=0:=by
  refine Decidable.byContradiction fun hn=>?_
  rw[EA hn,FJ]at h;simp at h
 obtain⟨h0,h1⟩:=sB.1 hr;unfold uX;rw[List.mem_flatMap];refine⟨oid.toNat,by simp;omega,?_⟩
 rw[List.mem_flatMap];refine⟨i,by simpa using hi,?_⟩
 rw[show((oid.toNat:Nat):Int)=oid by omega]
 cases w<;>simp
theorem Ds{L:List Obj}{oid:Int}(hL:L.length<=64):∀c,I9 L oid c->c∈xd L/\((cT c).kind=2->c∈uX L)/\((cT c).kind=5->c∈uX L++BQ L):=by
 intro c h;induction h with
 |base i hi h1=>
  have:=vl hL hi h1;exact⟨by unfold xd;simp[this],fun _=>this,fun _=>by simp[this]⟩
 |step c d hc hd ih=>
  obtain⟨i1,i2,i3⟩:=ih;obtain⟨k,h1,rfl,⟨h2,⟨i,hi,rfl⟩|⟨hr,rfl⟩⟩|⟨h2,⟨i,hi,rfl⟩|rfl⟩⟩:=hd
  ·have:=vl hL hi h1;exact⟨by unfold xd;simp[this],fun _=>this,fun _=>by simp[this]⟩
  ·have:b6 (IZ (cT c))∈BQ L:=List.mem_map.2 ⟨c,i2 h2,rfl⟩;exact⟨by unfold xd;simp[this],fun h=>by simp[b6,cT,aX,IZ]at h,fun _=>by simp[this]⟩
  ·have:=vl hL hi h1;exact⟨by unfold xd;simp[this],fun _=>this,fun _=>by simp[this]⟩
  ·have:b6 (GM (cT c))∈I4 L:=List.mem_map.2 ⟨c,i3 h2,rfl⟩;exact⟨by unfold xd;simp[this],fun h=>by simp[b6,cT,aX,GM]at h,fun h=>by simp[b6,cT,aX,GM]at h⟩
theorem Fl{L:List Obj}{oid:Int}(hL:L.length<=64)(n:Nat):(jf L oid n).length<=8192:=by
 rw[<-Fm L];exact rW _ _ (lZ L oid n) fun c hc=>(Ds hL c (oc n c hc)).1
theorem zP{L:List Obj}{oid:Int}{n:Nat}(hn:n<=10000)(h:(jf L oid n).length<=n):F4 L oid=jf L oid n:=by
 unfold F4;obtain⟨m,hm⟩:∃m,10000=n+m:=⟨10000-n,by omega⟩
 rw[hm];exact rF h m
theorem xH{k:Key}(h:aP k=true):aP (dA k)=true:=by
 unfold dA;rw[au h];unfold xX;simp only[aP,ah,ai,Bool.or_eq_true]at h;split
 ·rename_i hk;simp only[aP,wg,ah,ai,Bool.or_eq_true,hk,fg,bg,bH,bz]at h⊢
  have hw:0<=il k.rights 3/\il k.rights 3<=7:=by
   unfold il cK;repeat' split
   all_goals omega
  simp_all
 ·split
  ·rename_i hk;simp only[aP,wg,ah,ai,Bool.or_eq_true,hk,fg,bg,bH,bz]at h⊢;simp_all
  ·split
   ·simpa only[aP,ah,ai,Bool.or_eq_true]using h
   ·decide
theorem xR(L:List Obj)(oid:Int)(w:Bool)(i:Nat):aP (p5 L oid w i)=true:=by
 unfold p5;split
 ·exact xH (r8 _ _)
 ·exact r8 _ _
theorem kX{k:Key}(h:aP k=true):aP (cT (b6 k))=true:=by
 simp only[aP,ah,ai,Bool.or_eq_true]at h⊢;exact⟨⟨⟨⟨h.1.1.1.1,.inr rfl⟩,h.1.1.2⟩,h.1.2⟩,h.2⟩
theorem Ht{L:List Obj}{oid:Int}:∀c,I9 L oid c->aP (cT c)=true/\c.length=5/\b6 (cT c)=c/\mn (cT c)=true:=by
 intro c h;induction h with
 |base i hi h1=>exact⟨kX (xR _ _ _ _),rfl,rfl,h1⟩
 |step c d hc hd ih=>
  obtain⟨k,h1,rfl,⟨h2,⟨i,hi,rfl⟩|⟨hr,rfl⟩⟩|⟨h2,⟨i,hi,rfl⟩|rfl⟩⟩:=hd
  ·exact⟨kX (xR _ _ _ _),rfl,rfl,h1⟩
  ·refine⟨kX ?_,rfl,rfl,h1⟩;have:=ih.1;simp only[aP,ah,ai,Bool.or_eq_true,h2,bH,bz,cQ]at this;simp only[aP,IZ,ah,ai,Bool.or_eq_true,bH,bz,cQ,fg,bg];simp_all
  ·exact⟨kX (xR _ _ _ _),rfl,rfl,h1⟩
  ·refine⟨kX ?_,rfl,rfl,h1⟩;have:=ih.1;simp only[aP,ah,ai,Bool.or_eq_true,h2,bH,bz,cQ]at this;simp only[aP,GM,ah,ai,Bool.or_eq_true,bH,bz,cQ,fg,bg];simp_all
theorem CF{L:List Obj}{oid:Int}{n:Nat}{c:Cp}(h:c∈jf L oid n):aP (cT c)=true/\c.length=5/\b6 (cT c)=c/\mn (cT c)=true:=Ht c (oc n c h)
end Go.Sx
