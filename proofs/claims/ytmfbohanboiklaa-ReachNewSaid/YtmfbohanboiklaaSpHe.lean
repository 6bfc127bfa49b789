import Derived.Test.YtmfbohanboiklaaSpHd
import Derived.KernelRfl
set_option linter.unusedSimpArgs false
set_option linter.unusedVariables false
set_option maxRecDepth 100000
namespace Go.Sx
abbrev bB (L:List Obj) (oid g:Int) (c:Nat):Int:=aT (bu L oid g) g.toNat c
abbrev cr (L:List Obj) (oid g:Int):Key:=Key.mk (aT (bu L oid g) g.toNat 0) (aT (bu L oid g) g.toNat 1) (aT (bu L oid g) g.toNat 2) (aT (bu L oid g) g.toNat 3) (aT (bu L oid g) g.toNat 4) 0
abbrev jh (L:List Obj) (oid g:Int):Key:=bp L ((ay L oid.toNat free).slots.at g.toNat)
abbrev NC (F:List Cp) (k:Key):Bool:= !(decide (2<=k.kind)&&decide (k.kind<=10))||fb F (bd (Key.mk k.kind k.oid k.count k.call k.rights 0))
theorem ou {F:List Cp} {k:Key} (h:NC F k=true):F=sg F k:=by
 unfold sg;rw[N9];rintro⟨h1,h2⟩
 have h:(!kU k||fb F (bd k))=true:=h
 rw[h1,h2]at h;simp at h
theorem sQ {F:List Cp} {k:Key} (h:NC F k=false):bg F [k.kind,k.oid,k.count,k.call,k.rights]=sg F k:=by
 have h:(!kU k||fb F (bd k))=false:=h
 simp only[Bool.or_eq_false_iff,Bool.not_eq_false']at h;unfold sg;rw[Oa ⟨h.1,h.2⟩];rfl
theorem tT {F:List Cp} {f f':Nat->Key}:∀n:Nat,(∀i,i<n->f i=f' i)->tx F f n=tx F f' n
 |0,_=>rfl
 |n+1,h=>by simp only[tx,tT n fun i hi=>h i (by omega),h n (by omega)]
theorem xD {F:List Cp} {k:Key} (h:eD F):eD (sg F k):=fun x hx=>by
 rcases qQ.1 hx with hx|⟨_,rfl⟩
 ·exact h x hx
 ·rfl
theorem jD {F:List Cp} {f:Nat->Key} (h:eD F):∀n:Nat,eD (tx F f n)
 |0=>h
 |n+1=>xD (jD h n)
theorem Ar (F:List Cp) (k:Key):(sg F k).length<=F.length+1:=by
 unfold sg;split
 ·simp
 ·omega
theorem mL (F:List Cp) (f:Nat->Key):∀n:Nat,(tx F f n).length<=F.length+n
 |0=>Nat.le_refl _
 |n+1=>by
  have:=mL F f n;have:=Ar (tx F f n) (f n);simp only[tx];omega
theorem Jn {L:List Obj} {oid:Int} (h:aC L oid=0) (i:Nat):kM L oid false i=bp L ((ay L oid.toNat free).slots.at i):=by
 unfold kM bm;rw[Oa h];simp
theorem FY {L:List Obj} {k:Key} (h:aC L k.oid=0) (i:Nat):df L k (i:Int)=kM L k.oid (bJ k) i:=by
 unfold df vy kM bm;rw[Oa h,qe];simp
theorem xH {L:List Obj} {k:Key} (h:aN (bp L k)=true):aC L (bp L k).oid=0:=by
 unfold bp at h⊢;split
 ·rename_i hc;rw[Oa hc]at h;exact absurd h (by decide)
 ·rename_i hc;rw[N9 hc]at h;simp only[Bool.or_eq_true,N3,Bool.not_eq_true',not_or,not_and]at hc;have:=hc.2 h;simp only[Bool.not_eq_false]at this;unfold ew at this;simp only[N3,N4]at this;exact this.1.2
theorem HJ {L:List Obj} {oid:Int} {w:Bool} {i:Nat} (h:aN (kM L oid w i)=true):aC L (kM L oid w i).oid=0:=by
 unfold kM at h⊢;split
 ·rename_i hw;rw[Oa hw]at h;have hk:=kC L ((bm L oid).slots.at i);have hwk:cE (bp L ((bm L oid).slots.at i))=eF (bp L ((bm L oid).slots.at i)):=qe _ _;rw[hwk]at h⊢
  have ho:(eF (bp L ((bm L oid).slots.at i))).oid=(bp L ((bm L oid).slots.at i)).oid/\aN (bp L ((bm L oid).slots.at i))=true:=by
   unfold eF at h⊢;unfold aN at *;rw[hk];split
   ·rename_i h2;exact⟨rfl,by simp[bk,h2]⟩
   ·split
    ·rename_i h3;exact⟨rfl,by simp[bk,h3]⟩
    ·split
     ·rename_i h8;rw[N9 (by omega),N9 (by omega),Oa h8,hk]at h
      exact⟨rfl,h⟩
     ·rename_i a b c;rw[N9 a,N9 b,N9 c]at h;exact absurd h (by decide)
  rw[ho.1];exact xH ho.2
 ·rename_i hw;rw[N9 hw]at h;exact xH h
theorem Af {L:List Obj} {oid:Int}:∀c,GR L oid c->bk (bc c).kind=true->aC L (bc c).oid=0:=by
 intro c h
 have key:∀o w i,bk (bc (bd (kM L o w i))).kind=true->aC L (bc (bd (kM L o w i))).oid=0:=fun o w i h=>by
  refine HJ (w:=w) (i:=i) (oid:=o) ?_;unfold aN;rw[vW];exact h
 induction h with
 |base i hi h1=>exact key _ _ _
 |step c d hc hd ih=>
  obtain⟨k,h1,rfl,⟨h2,⟨i,hi,rfl⟩|⟨hr,rfl⟩⟩|⟨h2,⟨i,hi,rfl⟩|rfl⟩⟩:=hd
  ·exact key _ _ _
  ·exact fun _=>ih (by rw[h2];rfl)
  ·exact key _ _ _
  ·exact fun _=>ih (by rw[h2];rfl)
theorem Lh {L:List Obj} {oid g:Int} (h0:0<=g) (h1:g<((bu L oid g).length:Int)):cr L oid g=bc (cw (fc L oid g.toNat) g.toNat)/\cw (fc L oid g.toNat) g.toNat∈fc L oid g.toNat/\bu L oid (g+1)=EE L (ez L (bu L oid g) (cr L oid g)) (cr L oid g):=by
 have hl:g.toNat<(fc L oid g.toNat).length:=by unfold bu at h1;omega
 have e:cr L oid g=bc (cw (fc L oid g.toNat) g.toNat):=rfl;refine⟨e,(at_mem hl).1,?_⟩;rw[e];unfold bu;rw[show(g+1).toNat=g.toNat+1 by omega,fc,Oa hl]
 unfold C8 EE ez;by_cases h2:(bc (cw (fc L oid g.toNat) g.toNat)).kind=2
 ·rw[Oa h2,Oa h2,N9 (by omega)]
 ·rw[N9 h2,N9 h2]
theorem yp {L:List Obj} (hL:dg L) (oid g:Int):eD (bu L oid g)/\(bu L oid g).length<=8192/\(bu L oid g).Nodup:=
 ⟨fun x hx=>(pg hx).2.1,mO (fg hL).2 _,hU _ _ _⟩
theorem vB {F G:List Cp} {n:Nat} (h:eD G) (hl:G.length<=F.length+n) (hF:F.length<=9000) (hn:n<=100):cm G/\jR (aa G) 40/\eC (aa G) 40:=by
 refine⟨⟨h,by omega⟩,?_,?_⟩
 ·unfold jR aa;simp only[maxLen];omega
 ·unfold eC aa;simp only[maxLen];omega
theorem Kc {L:List Obj} {F:List Cp} {k:Key} {g:Int} (h:eD F) (hF:F.length<=9000) (hg:bP g):cm (fH L F k g)/\jR (aa (fH L F k g)) 40/\eC (aa (fH L F k g)) 40:=
 vB (n:=g.toNat) (jD h _) (mL _ _ _) hF (by have:=hg.2;omega)
theorem KD {L:List Obj} {F:List Cp} {k:Key} {g:Int} (h:eD F) (hF:F.length<=9000) (hg:bP g):cm (gG L F k g)/\jR (aa (gG L F k g)) 40/\eC (aa (gG L F k g)) 40:=
 vB (n:=g.toNat) (jD h _) (mL _ _ _) hF (by have:=hg.2;omega)
theorem Jl {L:List Obj} {F:List Cp} {k:Key} (h:eD F) (hF:F.length<=8192):eD (ez L F k)/\(ez L F k).length<=9000:=by
 unfold ez I3 oC;split
 ·split
  ·refine⟨xD (jD h _),?_⟩;have:=Ar (tx F (kM L k.oid (bJ k)) (16:Int).toNat) (D9 k);have:=mL F (kM L k.oid (bJ k)) (16:Int).toNat;omega
  ·refine⟨jD h _,?_⟩;have:=mL F (kM L k.oid (bJ k)) (16:Int).toNat;omega
 ·exact⟨h,by omega⟩
theorem G3 {L:List Obj} {F:List Cp} {k:Key} {g:Int} (h0:0<=g):fH L F k (g+1)=sg (fH L F k g) (df L k g):=by
 unfold fH;rw[show(g+1).toNat=g.toNat+1 by omega,tx,show((g.toNat:Nat):Int)=g by omega]
theorem KG {L:List Obj} {F:List Cp} {k:Key} (h:aC L k.oid=0):fH L F k 16=oC L F k.oid (bJ k) 16:=tT _ fun i _=>FY h i
theorem z6 {L:List Obj} {F:List Cp} {k:Key} {g:Int} (h0:0<=g) (h:aC L k.oid=0):gG L F k (g+1)=sg (gG L F k g) (jh L k.oid g):=by
 unfold gG;rw[show(g+1).toNat=g.toNat+1 by omega,tx,Jn h]
theorem GW {L:List Obj} {oid g:Int} (h0:0<=g) (h:aC L oid=0):lH L oid (g+1)=sg (lH L oid g) (jh L oid g):=z6 (k:=⟨0,oid,0,0,0,0⟩) h0 h
theorem Ji {L:List Obj} {oid g:Int} (hg:bP g):cm (lH L oid g)/\jR (aa (lH L oid g)) 40/\eC (aa (lH L oid g)) 40:=
 vB (F:= []) (n:=g.toNat) (jD (by intro x hx;simp at hx) _) (mL _ _ _) (by simp) (by have:=hg.2;omega)
theorem Jt {L:List Obj} {oid g:Int} (hL:dg L) (hg:lW L oid g) (h1:g<((bu L oid g).length:Int)):lW L oid (g+1)/\aU .i64 (g+1)/\(10000-(g+1)).toNat<(10000-g).toNat:=by
 obtain⟨a,b,c⟩:=hg;have hl:=(yp hL oid g).2.1;refine⟨⟨by omega,?_,by omega⟩,by simp only[aU,bG];omega,by omega⟩
 have:=(vV L oid g.toNat 1).length_le;rw[show(g+1).toNat=g.toNat+1 by omega]
 unfold bu at h1;omega
abbrev nG:List Obj:= [Obj.mk 1 free.count free.calls (free.slots.put 4 (Key.mk 2 1 void.count void.call 2 void.value)) free.bytes,Obj.mk 1 free.count free.calls ((free.slots.put 0 (Key.mk 3 2 void.count void.call void.rights void.value)).put 1 (Key.mk 9 void.oid void.count void.call void.rights void.value)) free.bytes,Obj.mk 2 free.count free.calls free.slots free.bytes,free]
theorem uw:bZ nG=true:=by kernel_rfl
theorem HO:ah nG 0= [[2,1,0,0,2],[3,2,0,0,1]]:=by
 have e:fc nG 0 2= [[2,1,0,0,2],[3,2,0,0,1]]:=by kernel_rfl
 unfold ah;rw[qV (n:=2) (by omega) (by rw[e];decide),e]
 decide
theorem wI {L:List Obj} (hL:dg L) (oid:Int):cm (ah L oid):=by
 have h5:∀x∈ny L oid,x.length=5:=fun x hx=>(pg hx).2.1
 have hp:=(fx h5 (sH L oid)).2;refine⟨fun x hx=>h5 x (hp.mem_iff.1 hx),?_⟩
 have:=hp.length_eq;unfold ah;rw[this];have:(ny L oid).length<=8192:=mO (fg hL).2 _;omega
end Go.Sx
