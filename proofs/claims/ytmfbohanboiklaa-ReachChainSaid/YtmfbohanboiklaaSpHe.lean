import Derived.Test.YtmfbohanboiklaaSpHd
import Derived.KernelRfl
set_option linter.unusedSimpArgs false
set_option linter.unusedVariables false
set_option maxRecDepth 100000
namespace Go.Sx
abbrev br (L:List Obj) (oid g:Int) (c:Nat):Int:=aN (bp L oid g) g.toNat c
abbrev cg (L:List Obj) (oid g:Int):Key:=Key.mk (aN (bp L oid g) g.toNat 0) (aN (bp L oid g) g.toNat 1) (aN (bp L oid g) g.toNat 2) (aN (bp L oid g) g.toNat 3) (aN (bp L oid g) g.toNat 4) 0
abbrev iH (L:List Obj) (oid g:Int):Key:=bc L ((au L oid.toNat free).slots.at g.toNat)
abbrev MH (F:List Cp) (k:Key):Bool:= !(decide (2<=k.kind)&&decide (k.kind<=10))||eN F (bd (Key.mk k.kind k.oid k.count k.call k.rights 0))
theorem oi {F:List Cp} {k:Key} (h:MH F k=true):F=rJ F k:=by
 unfold rJ;rw[Nf];rintro⟨h1,h2⟩
 have h:(!gJ k||eN F (bd k))=true:=h
 rw[h1,h2]at h;simp at h
theorem qZ {F:List Cp} {k:Key} (h:MH F k=false):ba F [k.kind,k.oid,k.count,k.call,k.rights]=rJ F k:=by
 have h:(!gJ k||eN F (bd k))=false:=h
 simp only[Bool.or_eq_false_iff,Bool.not_eq_false']at h;unfold rJ;rw[Ng ⟨h.1,h.2⟩];rfl
theorem tj {F:List Cp} {f f':Nat->Key}:∀n:Nat,(∀i,i<n->f i=f' i)->td F f n=td F f' n
 |0,_=>rfl
 |n+1,h=>by simp only[td,tj n fun i hi=>h i (by omega),h n (by omega)]
theorem xb {F:List Cp} {k:Key} (h:eJ F):eJ (rJ F k):=fun x hx=>by
 rcases qB.1 hx with hx|⟨_,rfl⟩
 ·exact h x hx
 ·rfl
theorem jr {F:List Cp} {f:Nat->Key} (h:eJ F):∀n:Nat,eJ (td F f n)
 |0=>h
 |n+1=>xb (jr h n)
theorem An (F:List Cp) (k:Key):(rJ F k).length<=F.length+1:=by
 unfold rJ;split
 ·simp
 ·omega
theorem lS (F:List Cp) (f:Nat->Key):∀n:Nat,(td F f n).length<=F.length+n
 |0=>Nat.le_refl _
 |n+1=>by
  have:=lS F f n;have:=An (td F f n) (f n);simp only[td];omega
theorem DQ {L:List Obj} {oid:Int} (h:aC L oid=0) (i:Nat):jj L oid false i=bc L ((au L oid.toNat free).slots.at i):=by
 unfold jj bS;rw[Ng h];simp
theorem GU {L:List Obj} {k:Key} (h:aC L k.oid=0) (i:Nat):cZ L k (i:Int)=jj L k.oid (bq k) i:=by
 unfold cZ u4 jj bS;rw[Ng h,kE];simp
theorem wi {L:List Obj} {k:Key} (h:aW (bc L k)=true):aC L (bc L k).oid=0:=by
 unfold bc at h⊢;split
 ·rename_i hc;rw[Ng hc]at h;exact absurd h (by decide)
 ·rename_i hc;rw[Nf hc]at h;simp only[Bool.or_eq_true,M8,Bool.not_eq_true',not_or,not_and]at hc;have:=hc.2 h;simp only[Bool.not_eq_false]at this;unfold ep at this;simp only[M8,M9]at this;exact this.1.2
theorem G7 {L:List Obj} {oid:Int} {w:Bool} {i:Nat} (h:aW (jj L oid w i)=true):aC L (jj L oid w i).oid=0:=by
 unfold jj at h⊢;split
 ·rename_i hw;rw[Ng hw]at h;have hk:=jX L ((bS L oid).slots.at i);have hwk:cz (bc L ((bS L oid).slots.at i))=cA (bc L ((bS L oid).slots.at i)):=kE _ _;rw[hwk]at h⊢
  have ho:(cA (bc L ((bS L oid).slots.at i))).oid=(bc L ((bS L oid).slots.at i)).oid/\aW (bc L ((bS L oid).slots.at i))=true:=by
   unfold cA at h⊢;unfold aW at *;rw[hk];split
   ·rename_i h2;exact⟨rfl,by simp[bE,h2]⟩
   ·split
    ·rename_i h3;exact⟨rfl,by simp[bE,h3]⟩
    ·split
     ·rename_i h8;rw[Nf (by omega),Nf (by omega),Ng h8,hk]at h
      exact⟨rfl,h⟩
     ·rename_i a b c;rw[Nf a,Nf b,Nf c]at h;exact absurd h (by decide)
  rw[ho.1];exact wi ho.2
 ·rename_i hw;rw[Nf hw]at h;exact wi h
theorem F2 {L:List Obj} {oid:Int}:∀c,FN L oid c->bE (bX c).kind=true->aC L (bX c).oid=0:=by
 intro c h
 have key:∀o w i,bE (bX (bd (jj L o w i))).kind=true->aC L (bX (bd (jj L o w i))).oid=0:=fun o w i h=>by
  refine G7 (w:=w) (i:=i) (oid:=o) ?_;unfold aW;rw[vN];exact h
 induction h with
 |base i hi h1=>exact key _ _ _
 |step c d hc hd ih=>
  obtain⟨k,h1,rfl,⟨h2,⟨i,hi,rfl⟩|⟨hr,rfl⟩⟩|⟨h2,⟨i,hi,rfl⟩|rfl⟩⟩:=hd
  ·exact key _ _ _
  ·exact fun _=>ih (by rw[h2];rfl)
  ·exact key _ _ _
  ·exact fun _=>ih (by rw[h2];rfl)
theorem Li {L:List Obj} {oid g:Int} (h0:0<=g) (h1:g<((bp L oid g).length:Int)):cg L oid g=bX (cT (eV L oid g.toNat) g.toNat)/\cT (eV L oid g.toNat) g.toNat∈eV L oid g.toNat/\bp L oid (g+1)=Em L (eu L (bp L oid g) (cg L oid g)) (cg L oid g):=by
 have hl:g.toNat<(eV L oid g.toNat).length:=by unfold bp at h1;omega
 have e:cg L oid g=bX (cT (eV L oid g.toNat) g.toNat):=rfl;refine⟨e,(at_mem hl).1,?_⟩;rw[e];unfold bp;rw[show(g+1).toNat=g.toNat+1 by omega,eV,Ng hl]
 unfold Ev Em eu;by_cases h2:(bX (cT (eV L oid g.toNat) g.toNat)).kind=2
 ·rw[Ng h2,Ng h2,Nf (by omega)]
 ·rw[Nf h2,Nf h2]
theorem yN {L:List Obj} (hL:fC L) (oid g:Int):eJ (bp L oid g)/\(bp L oid g).length<=8192/\(bp L oid g).Nodup:=
 ⟨fun x hx=>(sw hx).2.1,mw (mr hL).2 _,gP _ _ _⟩
theorem ve {F G:List Cp} {n:Nat} (h:eJ G) (hl:G.length<=F.length+n) (hF:F.length<=9000) (hn:n<=100):dF G/\jg (aa G) 40/\eh (aa G) 40:=by
 refine⟨⟨h,by omega⟩,?_,?_⟩
 ·unfold jg aa;simp only[maxLen];omega
 ·unfold eh aa;simp only[maxLen];omega
theorem JJ {L:List Obj} {F:List Cp} {k:Key} {g:Int} (h:eJ F) (hF:F.length<=9000) (hg:bK g):dF (fm L F k g)/\jg (aa (fm L F k g)) 40/\eh (aa (fm L F k g)) 40:=
 ve (n:=g.toNat) (jr h _) (lS _ _ _) hF (by have:=hg.2;omega)
theorem I4 {L:List Obj} {F:List Cp} {k:Key} {g:Int} (h:eJ F) (hF:F.length<=9000) (hg:bK g):dF (gp L F k g)/\jg (aa (gp L F k g)) 40/\eh (aa (gp L F k g)) 40:=
 ve (n:=g.toNat) (jr h _) (lS _ _ _) hF (by have:=hg.2;omega)
theorem Iu {L:List Obj} {F:List Cp} {k:Key} (h:eJ F) (hF:F.length<=8192):eJ (eu L F k)/\(eu L F k).length<=9000:=by
 unfold eu Ii ou;split
 ·split
  ·refine⟨xb (jr h _),?_⟩;have:=An (td F (jj L k.oid (bq k)) (16:Int).toNat) (Eo k);have:=lS F (jj L k.oid (bq k)) (16:Int).toNat;omega
  ·refine⟨jr h _,?_⟩;have:=lS F (jj L k.oid (bq k)) (16:Int).toNat;omega
 ·exact⟨h,by omega⟩
theorem G3 {L:List Obj} {F:List Cp} {k:Key} {g:Int} (h0:0<=g):fm L F k (g+1)=rJ (fm L F k g) (cZ L k g):=by
 unfold fm;rw[show(g+1).toNat=g.toNat+1 by omega,td,show((g.toNat:Nat):Int)=g by omega]
theorem Ia {L:List Obj} {F:List Cp} {k:Key} (h:aC L k.oid=0):fm L F k 16=ou L F k.oid (bq k) 16:=tj _ fun i _=>GU h i
theorem As {L:List Obj} {F:List Cp} {k:Key} {g:Int} (h0:0<=g) (h:aC L k.oid=0):gp L F k (g+1)=rJ (gp L F k g) (iH L k.oid g):=by
 unfold gp;rw[show(g+1).toNat=g.toNat+1 by omega,td,DQ h]
theorem Gp {L:List Obj} {oid g:Int} (h0:0<=g) (h:aC L oid=0):lg L oid (g+1)=rJ (lg L oid g) (iH L oid g):=As (k:=⟨0,oid,0,0,0,0⟩) h0 h
theorem JB {L:List Obj} {oid g:Int} (hg:bK g):dF (lg L oid g)/\jg (aa (lg L oid g)) 40/\eh (aa (lg L oid g)) 40:=
 ve (F:= []) (n:=g.toNat) (jr (by intro x hx;simp at hx) _) (lS _ _ _) (by simp) (by have:=hg.2;omega)
theorem II {L:List Obj} {oid g:Int} (hL:fC L) (hg:kZ L oid g) (h1:g<((bp L oid g).length:Int)):kZ L oid (g+1)/\aP .i64 (g+1)/\(10000-(g+1)).toNat<(10000-g).toNat:=by
 obtain⟨a,b,c⟩:=hg;have hl:=(yN hL oid g).2.1;refine⟨⟨by omega,?_,by omega⟩,by simp only[aP,bC];omega,by omega⟩
 have:=(uP L oid g.toNat 1).length_le;rw[show(g+1).toNat=g.toNat+1 by omega]
 unfold bp at h1;omega
abbrev nm:List Obj:= [Obj.mk 1 free.count free.calls (free.slots.put 4 (Key.mk 2 1 void.count void.call 2 void.value)) free.bytes,Obj.mk 1 free.count free.calls ((free.slots.put 0 (Key.mk 3 2 void.count void.call void.rights void.value)).put 1 (Key.mk 9 void.oid void.count void.call void.rights void.value)) free.bytes,Obj.mk 2 free.count free.calls free.slots free.bytes,free]
theorem tF:bV nm=true:=by kernel_rfl
theorem FK:dt nm 0= [[2,1,0,0,2],[3,2,0,0,1]]:=by
 have e:eV nm 0 2= [[2,1,0,0,2],[3,2,0,0,1]]:=by kernel_rfl
 unfold dt;rw[qO (n:=2) (by omega) (by rw[e];decide),e]
 decide
theorem D4 {L:List Obj} (hL:fC L) (oid:Int):dF (dt L oid):=by
 have h5:∀x∈nk L oid,x.length=5:=fun x hx=>(sw hx).2.1
 have hp:=(fR h5 (wh L oid)).2;refine⟨fun x hx=>h5 x (hp.mem_iff.1 hx),?_⟩
 have:=hp.length_eq;unfold dt;rw[this];have:(nk L oid).length<=8192:=mw (mr hL).2 _;omega
theorem HZ {x:List Int} (h:∀o∈x,bC .u8 o):∀i,0<=au x i 0/\au x i 0<=255:=fun i=>by
 unfold au;rw[Nd];cases hi:x[i]? with
 |none=>simp
 |some y=>exact h y (List.mem_of_getElem? hi)
end Go.Sx
