import Derived.Test.YtmfbohanboiklaaSpHd
import Derived.KernelRfl
set_option linter.unusedSimpArgs false
set_option linter.unusedVariables false
set_option maxRecDepth 100000
namespace Go.Sx
abbrev bp (L:List Obj) (oid g:Int) (c:Nat):Int:=bc (bm L oid g) g.toNat c
abbrev ca (L:List Obj) (oid g:Int):Key:=Key.mk (bc (bm L oid g) g.toNat 0) (bc (bm L oid g) g.toNat 1) (bc (bm L oid g) g.toNat 2) (bc (bm L oid g) g.toNat 3) (bc (bm L oid g) g.toNat 4) 0
abbrev iF (L:List Obj) (oid g:Int):Key:=bd L ((ay L oid.toNat free).slots.at g.toNat)
abbrev L6 (F:List Cp) (k:Key):Bool:= !(decide (2<=k.kind)&&decide (k.kind<=10))||eH F (a8 (Key.mk k.kind k.oid k.count k.call k.rights 0))
theorem nT {F:List Cp} {k:Key} (h:L6 F k=true):F=qU F k:=by
 unfold qU;rw[MA];rintro⟨h1,h2⟩
 have h:(!kh k||eH F (a8 k))=true:=h
 rw[h1,h2]at h;simp at h
theorem rV {F:List Cp} {k:Key} (h:L6 F k=false):bj F [k.kind,k.oid,k.count,k.call,k.rights]=qU F k:=by
 have h:(!kh k||eH F (a8 k))=false:=h
 simp only[Bool.or_eq_false_iff,Bool.not_eq_false']at h;unfold qU;rw[MB ⟨h.1,h.2⟩];rfl
theorem sP {F:List Cp} {f f':Nat->Key}:∀n:Nat,(∀i,i<n->f i=f' i)->sI F f n=sI F f' n
 |0,_=>rfl
 |n+1,h=>by simp only[sI,sP n fun i hi=>h i (by omega),h n (by omega)]
theorem xn {F:List Cp} {k:Key} (h:eF F):eF (qU F k):=fun x hx=>by
 rcases qa.1 hx with hx|⟨_,rfl⟩
 ·exact h x hx
 ·rfl
theorem jl {F:List Cp} {f:Nat->Key} (h:eF F):∀n:Nat,eF (sI F f n)
 |0=>h
 |n+1=>xn (jl h n)
theorem yZ (F:List Cp) (k:Key):(qU F k).length<=F.length+1:=by
 unfold qU;split
 ·simp
 ·omega
theorem lJ (F:List Cp) (f:Nat->Key):∀n:Nat,(sI F f n).length<=F.length+n
 |0=>Nat.le_refl _
 |n+1=>by
  have:=lJ F f n;have:=yZ (sI F f n) (f n);simp only[sI];omega
theorem Jf {L:List Obj} {oid:Int} (h:aE L oid=0) (i:Nat):ke L oid false i=bd L ((ay L oid.toNat free).slots.at i):=by
 unfold ke bR;rw[MB h];simp
theorem FY {L:List Obj} {k:Key} (h:aE L k.oid=0) (i:Nat):cU L k (i:Int)=ke L k.oid (bE k) i:=by
 unfold cU vj ke bR;rw[MB h,pC];simp
theorem xe {L:List Obj} {k:Key} (h:aS (bd L k)=true):aE L (bd L k).oid=0:=by
 unfold bd at h⊢;split
 ·rename_i hc;rw[MB hc]at h;exact absurd h (by decide)
 ·rename_i hc;rw[MA hc]at h;simp only[Bool.or_eq_true,Mu,Bool.not_eq_true',not_or,not_and]at hc;have:=hc.2 h;simp only[Bool.not_eq_false]at this;unfold ej at this;simp only[Mu,Mv]at this;exact this.1.2
theorem Gi {L:List Obj} {oid:Int} {w:Bool} {i:Nat} (h:aS (ke L oid w i)=true):aE L (ke L oid w i).oid=0:=by
 unfold ke at h⊢;split
 ·rename_i hw;rw[MB hw]at h;have hk:=jY L ((bR L oid).slots.at i);have hwk:cx (bd L ((bR L oid).slots.at i))=eh (bd L ((bR L oid).slots.at i)):=pC _ _;rw[hwk]at h⊢
  have ho:(eh (bd L ((bR L oid).slots.at i))).oid=(bd L ((bR L oid).slots.at i)).oid/\aS (bd L ((bR L oid).slots.at i))=true:=by
   unfold eh at h⊢;unfold aS at *;rw[hk];split
   ·rename_i h2;exact⟨rfl,by simp[bB,h2]⟩
   ·split
    ·rename_i h3;exact⟨rfl,by simp[bB,h3]⟩
    ·split
     ·rename_i h8;rw[MA (by omega),MA (by omega),MB h8,hk]at h
      exact⟨rfl,h⟩
     ·rename_i a b c;rw[MA a,MA b,MA c]at h;exact absurd h (by decide)
  rw[ho.1];exact xe ho.2
 ·rename_i hw;rw[MA hw]at h;exact xe h
theorem GI {L:List Obj} {oid:Int}:∀c,Hr L oid c->bB (cq c).kind=true->aE L (cq c).oid=0:=by
 intro c h
 have key:∀o w i,bB (cq (a8 (ke L o w i))).kind=true->aE L (cq (a8 (ke L o w i))).oid=0:=fun o w i h=>by
  refine Gi (w:=w) (i:=i) (oid:=o) ?_;unfold aS;rw[uz];exact h
 induction h with
 |base i hi h1=>exact key _ _ _
 |step c d hc hd ih=>
  obtain⟨k,h1,rfl,⟨h2,⟨i,hi,rfl⟩|⟨hr,rfl⟩⟩|⟨h2,⟨i,hi,rfl⟩|rfl⟩⟩:=hd
  ·exact key _ _ _
  ·exact fun _=>ih (by rw[h2];rfl)
  ·exact key _ _ _
  ·exact fun _=>ih (by rw[h2];rfl)
theorem JM {L:List Obj} {oid g:Int} (h0:0<=g) (h1:g<((bm L oid g).length:Int)):ca L oid g=cq (di (fF L oid g.toNat) g.toNat)/\di (fF L oid g.toNat) g.toNat∈fF L oid g.toNat/\bm L oid (g+1)=Er L (ep L (bm L oid g) (ca L oid g)) (ca L oid g):=by
 have hl:g.toNat<(fF L oid g.toNat).length:=by unfold bm at h1;omega
 have e:ca L oid g=cq (di (fF L oid g.toNat) g.toNat):=rfl;refine⟨e,(at_mem hl).1,?_⟩;rw[e];unfold bm;rw[show(g+1).toNat=g.toNat+1 by omega,fF,MB hl]
 unfold CT Er ep;by_cases h2:(cq (di (fF L oid g.toNat) g.toNat)).kind=2
 ·rw[MB h2,MB h2,MA (by omega)]
 ·rw[MA h2,MA h2]
theorem yi {L:List Obj} (hL:j5 L) (oid g:Int):eF (bm L oid g)/\(bm L oid g).length<=8192/\(bm L oid g).Nodup:=
 ⟨fun x hx=>(uU hx).2.1,uy (p8 hL).2 _,gF _ _ _⟩
theorem uI {F G:List Cp} {n:Nat} (h:eF G) (hl:G.length<=F.length+n) (hF:F.length<=9000) (hn:n<=100):dI G/\ja (ae G) 40/\e9 (ae G) 40:=by
 refine⟨⟨h,by omega⟩,?_,?_⟩
 ·unfold ja ae;simp only[maxLen];omega
 ·unfold e9 ae;simp only[maxLen];omega
theorem Hp {L:List Obj} {F:List Cp} {k:Key} {g:Int} (h:eF F) (hF:F.length<=9000) (hg:bL g):dI (fl L F k g)/\ja (ae (fl L F k g)) 40/\e9 (ae (fl L F k g)) 40:=
 uI (n:=g.toNat) (jl h _) (lJ _ _ _) hF (by have:=hg.2;omega)
theorem H9 {L:List Obj} {F:List Cp} {k:Key} {g:Int} (h:eF F) (hF:F.length<=9000) (hg:bL g):dI (gh L F k g)/\ja (ae (gh L F k g)) 40/\e9 (ae (gh L F k g)) 40:=
 uI (n:=g.toNat) (jl h _) (lJ _ _ _) hF (by have:=hg.2;omega)
theorem Ib {L:List Obj} {F:List Cp} {k:Key} (h:eF F) (hF:F.length<=8192):eF (ep L F k)/\(ep L F k).length<=9000:=by
 unfold ep Iq pd;split
 ·split
  ·refine⟨xn (jl h _),?_⟩;have:=yZ (sI F (ke L k.oid (bE k)) (16:Int).toNat) (Da k);have:=lJ F (ke L k.oid (bE k)) (16:Int).toNat;omega
  ·refine⟨jl h _,?_⟩;have:=lJ F (ke L k.oid (bE k)) (16:Int).toNat;omega
 ·exact⟨h,by omega⟩
theorem Gy {L:List Obj} {F:List Cp} {k:Key} {g:Int} (h0:0<=g):fl L F k (g+1)=qU (fl L F k g) (cU L k g):=by
 unfold fl;rw[show(g+1).toNat=g.toNat+1 by omega,sI,show((g.toNat:Nat):Int)=g by omega]
theorem Jb {L:List Obj} {F:List Cp} {k:Key} (h:aE L k.oid=0):fl L F k 16=pd L F k.oid (bE k) 16:=sP _ fun i _=>FY h i
theorem yP {L:List Obj} {F:List Cp} {k:Key} {g:Int} (h0:0<=g) (h:aE L k.oid=0):gh L F k (g+1)=qU (gh L F k g) (iF L k.oid g):=by
 unfold gh;rw[show(g+1).toNat=g.toNat+1 by omega,sI,Jf h]
theorem Fj {L:List Obj} {oid g:Int} (h0:0<=g) (h:aE L oid=0):lb L oid (g+1)=qU (lb L oid g) (iF L oid g):=yP (k:=⟨0,oid,0,0,0,0⟩) h0 h
theorem Ig {L:List Obj} {oid g:Int} (hg:bL g):dI (lb L oid g)/\ja (ae (lb L oid g)) 40/\e9 (ae (lb L oid g)) 40:=
 uI (F:= []) (n:=g.toNat) (jl (by intro x hx;simp at hx) _) (lJ _ _ _) (by simp) (by have:=hg.2;omega)
theorem Iv {L:List Obj} {oid g:Int} (hL:j5 L) (hg:kH L oid g) (h1:g<((bm L oid g).length:Int)):kH L oid (g+1)/\br .i64 (g+1)/\(10000-(g+1)).toNat<(10000-g).toNat:=by
 obtain⟨a,b,c⟩:=hg;have hl:=(yi hL oid g).2.1;refine⟨⟨by omega,?_,by omega⟩,by simp only[br,bJ];omega,by omega⟩
 have:=(y9 L oid g.toNat 1).length_le;rw[show(g+1).toNat=g.toNat+1 by omega]
 unfold bm at h1;omega
abbrev mW:List Obj:= [Obj.mk 1 free.count free.calls (free.slots.put 4 (Key.mk 2 1 void.count void.call 2 void.value)) free.bytes,Obj.mk 1 free.count free.calls ((free.slots.put 0 (Key.mk 3 2 void.count void.call void.rights void.value)).put 1 (Key.mk 9 void.oid void.count void.call void.rights void.value)) free.bytes,Obj.mk 2 free.count free.calls free.slots free.bytes,free]
theorem s7:bT mW=true:=by kernel_rfl
theorem GK:dq mW 0= [[2,1,0,0,2],[3,2,0,0,1]]:=by
 have e:fF mW 0 2= [[2,1,0,0,2],[3,2,0,0,1]]:=by kernel_rfl
 unfold dq;rw[vh (n:=2) (by omega) (by rw[e];decide),e]
 decide
theorem BG {L:List Obj} (hL:j5 L) (oid:Int):dI (dq L oid):=by
 have h5:∀x∈vN L oid,x.length=5:=fun x hx=>(uU hx).2.1
 have hp:=(gE h5 (DT L oid)).2;refine⟨fun x hx=>h5 x (hp.mem_iff.1 hx),?_⟩
 have:=hp.length_eq;unfold dq;rw[this];have:(vN L oid).length<=8192:=uy (p8 hL).2 _;omega
end Go.Sx
