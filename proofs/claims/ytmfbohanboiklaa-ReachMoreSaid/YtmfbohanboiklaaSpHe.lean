import Derived.Test.YtmfbohanboiklaaSpHd
import Derived.KernelRfl
set_option linter.unusedSimpArgs false
set_option linter.unusedVariables false
set_option maxRecDepth 100000
namespace Go.Sx
abbrev bw (L:List Obj) (oid g:Int) (c:Nat):Int:=aK (bq L oid g) g.toNat c
abbrev ck (L:List Obj) (oid g:Int):Key:=Key.mk (aK (bq L oid g) g.toNat 0) (aK (bq L oid g) g.toNat 1) (aK (bq L oid g) g.toNat 2) (aK (bq L oid g) g.toNat 3) (aK (bq L oid g) g.toNat 4) 0
abbrev iK (L:List Obj) (oid g:Int):Key:=aT L ((aq L oid.toNat free).slots.at g.toNat)
abbrev Np (F:List Cp) (k:Key):Bool:= !(decide (2<=k.kind)&&decide (k.kind<=10))||eR F (bc (Key.mk k.kind k.oid k.count k.call k.rights 0))
theorem oh {F:List Cp} {k:Key} (h:Np F k=true):F=tj F k:=by
 unfold tj;rw[NW];rintro⟨h1,h2⟩
 have h:(!gq k||eR F (bc k))=true:=h
 rw[h1,h2]at h;simp at h
theorem rY {F:List Cp} {k:Key} (h:Np F k=false):bg F [k.kind,k.oid,k.count,k.call,k.rights]=tj F k:=by
 have h:(!gq k||eR F (bc k))=false:=h
 simp only[Bool.or_eq_false_iff,Bool.not_eq_false']at h;unfold tj;rw[NX ⟨h.1,h.2⟩];rfl
theorem uL {F:List Cp} {f f':Nat->Key}:∀n:Nat,(∀i,i<n->f i=f' i)->tx F f n=tx F f' n
 |0,_=>rfl
 |n+1,h=>by simp only[tx,uL n fun i hi=>h i (by omega),h n (by omega)]
theorem wv {F:List Cp} {k:Key} (h:eM F):eM (tj F k):=fun x hx=>by
 rcases rn.1 hx with hx|⟨_,rfl⟩
 ·exact h x hx
 ·rfl
theorem jz {F:List Cp} {f:Nat->Key} (h:eM F):∀n:Nat,eM (tx F f n)
 |0=>h
 |n+1=>wv (jz h n)
theorem zQ (F:List Cp) (k:Key):(tj F k).length<=F.length+1:=by
 unfold tj;split
 ·simp
 ·omega
theorem mB (F:List Cp) (f:Nat->Key):∀n:Nat,(tx F f n).length<=F.length+n
 |0=>Nat.le_refl _
 |n+1=>by
  have:=mB F f n;have:=zQ (tx F f n) (f n);simp only[tx];omega
theorem Fa {L:List Obj} {oid:Int} (h:az L oid=0) (i:Nat):iH L oid false i=aT L ((aq L oid.toNat free).slots.at i):=by
 unfold iH bS;rw[NX h];simp
theorem F8 {L:List Obj} {k:Key} (h:az L k.oid=0) (i:Nat):dc L k (i:Int)=iH L k.oid (br k) i:=by
 unfold dc vY iH bS;rw[NX h,kM];simp
theorem yi {L:List Obj} {k:Key} (h:aX (aT L k)=true):az L (aT L k).oid=0:=by
 unfold aT at h⊢;split
 ·rename_i hc;rw[NX hc]at h;exact absurd h (by decide)
 ·rename_i hc;rw[NW hc]at h;simp only[Bool.or_eq_true,NP,Bool.not_eq_true',not_or,not_and]at hc;have:=hc.2 h;simp only[Bool.not_eq_false]at this;unfold dU at this;simp only[NP,NQ]at this;exact this.1.2
theorem F4 {L:List Obj} {oid:Int} {w:Bool} {i:Nat} (h:aX (iH L oid w i)=true):az L (iH L oid w i).oid=0:=by
 unfold iH at h⊢;split
 ·rename_i hw;rw[NX hw]at h;have hk:=kh L ((bS L oid).slots.at i);have hwk:cD (aT L ((bS L oid).slots.at i))=cI (aT L ((bS L oid).slots.at i)):=kM _ _;rw[hwk]at h⊢
  have ho:(cI (aT L ((bS L oid).slots.at i))).oid=(aT L ((bS L oid).slots.at i)).oid/\aX (aT L ((bS L oid).slots.at i))=true:=by
   unfold cI at h⊢;unfold aX at *;rw[hk];split
   ·rename_i h2;exact⟨rfl,by simp[bG,h2]⟩
   ·split
    ·rename_i h3;exact⟨rfl,by simp[bG,h3]⟩
    ·split
     ·rename_i h8;rw[NW (by omega),NW (by omega),NX h8,hk]at h
      exact⟨rfl,h⟩
     ·rename_i a b c;rw[NW a,NW b,NW c]at h;exact absurd h (by decide)
  rw[ho.1];exact yi ho.2
 ·rename_i hw;rw[NW hw]at h;exact yi h
theorem HR {L:List Obj} {oid:Int}:∀c,Cz L oid c->bG (bP c).kind=true->az L (bP c).oid=0:=by
 intro c h
 have key:∀o w i,bG (bP (bc (iH L o w i))).kind=true->az L (bP (bc (iH L o w i))).oid=0:=fun o w i h=>by
  refine F4 (w:=w) (i:=i) (oid:=o) ?_;unfold aX;rw[vg];exact h
 induction h with
 |base i hi h1=>exact key _ _ _
 |step c d hc hd ih=>
  obtain⟨k,h1,rfl,⟨h2,⟨i,hi,rfl⟩|⟨hr,rfl⟩⟩|⟨h2,⟨i,hi,rfl⟩|rfl⟩⟩:=hd
  ·exact key _ _ _
  ·exact fun _=>ih (by rw[h2];rfl)
  ·exact key _ _ _
  ·exact fun _=>ih (by rw[h2];rfl)
theorem Lk {L:List Obj} {oid g:Int} (h0:0<=g) (h1:g<((bq L oid g).length:Int)):ck L oid g=bP (cJ (fc L oid g.toNat) g.toNat)/\cJ (fc L oid g.toNat) g.toNat∈fc L oid g.toNat/\bq L oid (g+1)=C9 L (eu L (bq L oid g) (ck L oid g)) (ck L oid g):=by
 have hl:g.toNat<(fc L oid g.toNat).length:=by unfold bq at h1;omega
 have e:ck L oid g=bP (cJ (fc L oid g.toNat) g.toNat):=rfl;refine⟨e,(at_mem hl).1,?_⟩;rw[e];unfold bq;rw[show(g+1).toNat=g.toNat+1 by omega,fc,NX hl]
 unfold Fb C9 eu;by_cases h2:(bP (cJ (fc L oid g.toNat) g.toNat)).kind=2
 ·rw[NX h2,NX h2,NW (by omega)]
 ·rw[NW h2,NW h2]
theorem yv {L:List Obj} (hL:dW L) (oid g:Int):eM (bq L oid g)/\(bq L oid g).length<=8192/\(bq L oid g).Nodup:=
 ⟨fun x hx=>(nf hx).2.1,jP (iM hL).2 _,gT _ _ _⟩
theorem vE {F G:List Cp} {n:Nat} (h:eM G) (hl:G.length<=F.length+n) (hF:F.length<=9000) (hn:n<=100):c9 G/\jG (aa G) 40/\ep (aa G) 40:=by
 refine⟨⟨h,by omega⟩,?_,?_⟩
 ·unfold jG aa;simp only[maxLen];omega
 ·unfold ep aa;simp only[maxLen];omega
theorem JK {L:List Obj} {F:List Cp} {k:Key} {g:Int} (h:eM F) (hF:F.length<=9000) (hg:bR g):c9 (fD L F k g)/\jG (aa (fD L F k g)) 40/\ep (aa (fD L F k g)) 40:=
 vE (n:=g.toNat) (jz h _) (mB _ _ _) hF (by have:=hg.2;omega)
theorem Kk {L:List Obj} {F:List Cp} {k:Key} {g:Int} (h:eM F) (hF:F.length<=9000) (hg:bR g):c9 (gu L F k g)/\jG (aa (gu L F k g)) 40/\ep (aa (gu L F k g)) 40:=
 vE (n:=g.toNat) (jz h _) (mB _ _ _) hF (by have:=hg.2;omega)
theorem I3 {L:List Obj} {F:List Cp} {k:Key} (h:eM F) (hF:F.length<=8192):eM (eu L F k)/\(eu L F k).length<=9000:=by
 unfold eu J6 oi;split
 ·split
  ·refine⟨wv (jz h _),?_⟩;have:=zQ (tx F (iH L k.oid (br k)) (16:Int).toNat) (DS k);have:=mB F (iH L k.oid (br k)) (16:Int).toNat;omega
  ·refine⟨jz h _,?_⟩;have:=mB F (iH L k.oid (br k)) (16:Int).toNat;omega
 ·exact⟨h,by omega⟩
theorem HF {L:List Obj} {F:List Cp} {k:Key} {g:Int} (h0:0<=g):fD L F k (g+1)=tj (fD L F k g) (dc L k g):=by
 unfold fD;rw[show(g+1).toNat=g.toNat+1 by omega,tx,show((g.toNat:Nat):Int)=g by omega]
theorem IG {L:List Obj} {F:List Cp} {k:Key} (h:az L k.oid=0):fD L F k 16=oi L F k.oid (br k) 16:=uL _ fun i _=>F8 h i
theorem zR {L:List Obj} {F:List Cp} {k:Key} {g:Int} (h0:0<=g) (h:az L k.oid=0):gu L F k (g+1)=tj (gu L F k g) (iK L k.oid g):=by
 unfold gu;rw[show(g+1).toNat=g.toNat+1 by omega,tx,Fa h]
theorem GC {L:List Obj} {oid g:Int} (h0:0<=g) (h:az L oid=0):lD L oid (g+1)=tj (lD L oid g) (iK L oid g):=zR (k:=⟨0,oid,0,0,0,0⟩) h0 h
theorem JX {L:List Obj} {oid g:Int} (hg:bR g):c9 (lD L oid g)/\jG (aa (lD L oid g)) 40/\ep (aa (lD L oid g)) 40:=
 vE (F:= []) (n:=g.toNat) (jz (by intro x hx;simp at hx) _) (mB _ _ _) (by simp) (by have:=hg.2;omega)
theorem IF {L:List Obj} {oid g:Int} (hL:dW L) (hg:lN L oid g) (h1:g<((bq L oid g).length:Int)):lN L oid (g+1)/\aO .i64 (g+1)/\(10000-(g+1)).toNat<(10000-g).toNat:=by
 obtain⟨a,b,c⟩:=hg;have hl:=(yv hL oid g).2.1;refine⟨⟨by omega,?_,by omega⟩,by simp only[aO,bE];omega,by omega⟩
 have:=(vf L oid g.toNat 1).length_le;rw[show(g+1).toNat=g.toNat+1 by omega]
 unfold bq at h1;omega
abbrev nG:List Obj:= [Obj.mk 1 free.count free.calls (free.slots.put 4 (Key.mk 2 1 void.count void.call 2 void.value)) free.bytes,Obj.mk 1 free.count free.calls ((free.slots.put 0 (Key.mk 3 2 void.count void.call void.rights void.value)).put 1 (Key.mk 9 void.oid void.count void.call void.rights void.value)) free.bytes,Obj.mk 2 free.count free.calls free.slots free.bytes,free]
theorem uq:bX nG=true:=by kernel_rfl
theorem FW:aI nG 0= [[2,1,0,0,2],[3,2,0,0,1]]:=by
 have e:fc nG 0 2= [[2,1,0,0,2],[3,2,0,0,1]]:=by kernel_rfl
 unfold aI;rw[rq (n:=2) (by omega) (by rw[e];decide),e]
 decide
theorem xt {L:List Obj} (hL:dW L) (oid:Int):c9 (aI L oid):=by
 have h5:∀x∈la L oid,x.length=5:=fun x hx=>(nf hx).2.1
 have hp:=(eF h5 (oP L oid)).2;refine⟨fun x hx=>h5 x (hp.mem_iff.1 hx),?_⟩
 have:=hp.length_eq;unfold aI;rw[this];have:(la L oid).length<=8192:=jP (iM hL).2 _;omega
theorem IW {x:List Int} (h:∀o∈x,bE .u8 o):∀i,0<=aq x i 0/\aq x i 0<=255:=fun i=>by
 unfold aq;rw[NV];cases hi:x[i]? with
 |none=>simp
 |some y=>exact h y (List.mem_of_getElem? hi)
end Go.Sx
