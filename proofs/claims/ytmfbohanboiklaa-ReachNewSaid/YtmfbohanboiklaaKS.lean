import Derived.Test.YtmfbohanboiklaaKO
import Derived.Test.YtmfbohanboiklaaSxF
set_option linter.unusedSimpArgs false
set_option linter.unusedVariables false
namespace Go.Sx
def b6 (L:List Obj):Bool:=decide (aa L=0)
def aC (L:List Obj) (oid:Int):Int:=if aa L=0 then 1 else if oid<0\/(aa L:Int)<=oid then 4 else 0
def bm (L:List Obj) (oid:Int):Obj:=if aC L oid=0 then ay L oid.toNat free else free
def dH (L:List Obj):Int:=(aa L:Int)
def ew (L:List Obj) (k:Key):Bool:=aN k&&decide (aC L k.oid=0)&&bS k (ay L k.oid.toNat free)
def gd (L:List Obj) (k:Key):Obj:=if ew L k then ay L k.oid.toNat free else free
def bp (L:List Obj) (k:Key):Key:=if b6 L|| !au k||(aN k&& !ew L k)then void else k
def fi (n:Int):Bool:=decide (1<=n)&&decide (n<=64)
def gM (n:Int):List Obj:=List.replicate n.toNat free
def fG (L:List Obj) (i:Int) (o:Obj):List Obj:=if aC L i=0/\bn o (aa L:Int)=0 then gg L i.toNat o else L
def dU (L:List Obj) (i:Int) (o:Obj):Int:=if aC L i=0 then bn o (aa L:Int)else aC L i
def bZ (l:List Obj):Bool:=decide (1<=aa l)&&decide (aa l<=64)&&(List.range (aa l)).all fun i=>ej (ay l i free) (aa l:Int)
def eT (l:List Obj) (g:Int):List Obj:=l.take g.toNat++List.replicate (l.length-g.toNat) free
def mh (l:List Obj) (g:Int):Prop:=0<=g/\g<=(aa l:Int)/\∀j:Nat,(j:Int)<g->ej (ay l j free) (aa l:Int)=true
def vx (n i:Int):Prop:=0<=i/\i<=n
abbrev tS:Nat:=65
abbrev eS:Nat:=66
def IM (c:Bool) (M:List Obj) (v:V) (r:List ai):Prop:=
 match v with
 | .tp l=>match l with
   | [a,b]=>match a with
     | .nl p=>match p with
       | .pointer none=>c=false/\pW (.ci .i64 2) b r
       |_=>False
     | .lp j off=>match yT r j with
       |some (t,e,L)=>if off==0&&t==tS&&e==eS then c=true/\pW (.ci .i64 0) b r/\L=M else False
       |none=>False
     |_=>False
   |_=>False
 |_=>False
def Ns (n:Int):V->List ai->Prop:=IM (fi n) (gM n)
def Mf (l:List Obj) (v:V) (r:List ai):Prop:=
 match ae r 0 with
 | .ro _=>IM (bZ l) l v r
 |_=>False
theorem zQ {l:List Obj} {v:V} {r:List ai} (h:Mf l v r):IM (bZ l) l v r/\yT r 0=none:=by
 unfold Mf at h;split at h
 ·rename_i hr;refine⟨h,?_⟩;unfold yT wY;rw[hr]
 ·exact h.elim
def Mn (x:V) (M:List Obj) (v:V) (r:List ai):Prop:=
 match wY r 0 with
 |some (t,e,_,L)=>if t==tS&&e==eS then pW x v r/\L=M else False
 |none=>False
def Ii:pd:=fun args res K=>
 match args with
 | [a]=>match rI .i64 a with
   |some n=>(fi n=false->K (.tp [tG,.ci .i64 2]) res)/\(fi n=true->K (.tp [.lp res.length 0,.ci .i64 0]) (res++ [.store tS eS (gM n)]))
   |none=>False
 |_=>False
def MV (c:V):Bool:=
 match c with
 | .ag l=>match l with
   | [x]=>match x with
     | .nl v=>match v with
       | .slice none 0 0=>true
       |_=>false
     |_=>false
   |_=>false
 |_=>false
theorem CO {c:V} (h:MV c=true):c= .ag [.nl (.slice none 0 0)]:=by
 unfold MV at h;split at h
 ·split at h
  ·split at h
   ·split at h
    ·rfl
    ·simp at h
   ·simp at h
  ·simp at h
 ·simp at h
def IL:pd:=fun args res K=>
 match args with
 | [a,b,c]=>match rI .i64 b with
   |some i=>match rO c with
    |some o=>match a with
     | .nl v=>match v with
       | .pointer none=>K (.it .i64 (dU [] i o)) res
       |_=>False
     | .lp k off=>if off==0 then match ae res k with
       | .store t e L=>if t==tS&&e==eS then K (.it .i64 (dU L i o)) (aM res k (.store tS eS (fG L i o)))else False
       | .blk t c=>if t==tS&&MV c then K (.it .i64 (dU [] i o)) res else False
       |_=>False
       else False
     |_=>False
    |none=>False
   |none=>False
 |_=>False
structure Nv where
 puts:Bool
 oid:Int
 ob:Obj
def Nv.wf (x:Nv):Prop:=bG .i64 x.oid/\x.ob.wf
def Gi:Ct:=KT (.bo true)
abbrev Ny:V:= .nl (.slice none 0 0)
theorem nV {α:Type} (l:List α):aG (aa l)=(l.length:Int):=rfl
theorem rF {α:Type} (l:List α):((aa l:Nat):Int)=(l.length:Int):=rfl
def JZ:pd:=fun args res K=>
 match args with
 | [a]=>match a with
   | .sa k=>match br res k with
     | .arr _ e l=>if e==163 then match l with
       | .ob l=>(bZ l=false->K (.tp [tG,.ci .i64 2]) res)/\(bZ l=true->K (.tp [.lp res.length 0,.ci .i64 0]) (res++ [.store tS eS l]))
       |_=>False
       else False
     |_=>False
   |_=>False
 |_=>False
def Gz:Ct:=MS fun l=> .bo (bZ l)
def Bk:Ct:=HE rK fun l k=> .bo (ew l k)
def HI:Ct:=HE rK fun l k=> .key (bp l k)
def Je:Ct:=Mi tS eS fun L=> .bo (b6 L)
def Lk:Ct:=Bc tS eS (rI .i64) fun L i=> .it .i64 (aC L i)
def L9:Ct:=Bc tS eS (rI .i64) fun L i=> .tp [.ob (bm L i),.it .i64 (aC L i)]
def J5:Ct:=Mi tS eS fun L=> .it .i64 (dH L)
def H5:Ct:=Bc tS eS rK fun L k=> .tp [.ob (gd L k),.bo (ew L k)]
def JJ:Ct:=Bc tS eS rK fun L k=> .key (bp L k)
theorem pJ:b6 []=true:=rfl
theorem tI {L:List Obj}:b6 L=true↔L= []:=by
 unfold b6 aa;simp[List.length_eq_zero_iff]
theorem j8 (i:Int):aC [] i=1:=rfl
theorem Ez {L:List Obj} (h:b6 L=false) (i:Int):aC L i=if i<0\/(L.length:Int)<=i then 4 else 0:=by
 have:L≠ []:=fun e=>by rw[e]at h;simp[pJ]at h
 unfold aC aa;rw[N9 (by simpa[List.length_eq_zero_iff]using this)]
theorem iB {L:List Obj} {i:Int}:aC L i=0↔0<=i/\i<(L.length:Int):=by
 unfold aC aa;split
 ·omega
 ·split<;>omega
theorem u5 (L:List Obj) (k:Key):((!aN k)=true->free=gd L k/\false=ew L k)/\
  ((!aN k)=false->
    ((!decide (aC L (dS k)=0)|| !bS k (bm L (dS k)))=true->
      free=gd L k/\false=ew L k)/\
      ((!decide (aC L (dS k)=0)|| !bS k (bm L (dS k)))=false->
        bm L (dS k)=gd L k/\true=ew L k)):=by
 have fin:∀b,ew L k=b->(b=false->free=gd L k)/\b=ew L k:=fun b h=>⟨fun hb=>by unfold gd;rw[h,hb];rfl,h.symm⟩
 refine⟨fun h=>?_,fun h=>?_⟩
 ·have h:aN k=false:=by simpa using h
  have:=fin false (by unfold ew;rw[h];rfl)
  exact⟨this.1 rfl,this.2⟩
 ·have h:aN k=true:=by simpa using h
  have ho:dS k=k.oid:=by unfold dS;rw[Oa h]
  rw[ho];by_cases hh:aC L k.oid=0
  ·have hg:bm L k.oid=ay L k.oid.toNat free:=by unfold bm;rw[Oa hh]
   rw[hg];have e:ew L k=bS k (ay L k.oid.toNat free):=by unfold ew;simp[h,hh]
   refine⟨fun hc=>?_,fun hc=>?_⟩
   ·have hc:bS k (ay L k.oid.toNat free)=false:=by simpa[hh]using hc
    have:=fin false (by rw[e,hc])
    exact⟨this.1 rfl,this.2⟩
   ·have hc:bS k (ay L k.oid.toNat free)=true:=by simpa[hh]using hc
    have:=fin true (by rw[e,hc])
    refine⟨?_,this.2⟩;unfold gd;rw[e,hc];rfl
  ·have:=fin false (by unfold ew;simp[hh])
   exact⟨fun _=>⟨this.1 rfl,this.2⟩,fun hc=>by simp[hh]at hc⟩
theorem xS (L:List Obj) (k:Key):((b6 L|| !decide (aW k=0))=true->void=bp L k)/\
  ((b6 L|| !decide (aW k=0))=false->
    ((aN k&& !ew L k)=true->void=bp L k)/\((aN k&& !ew L k)=false->k=bp L k)):=by
 have hc:(!decide (aW k=0))= !au k:=by unfold aW;cases au k<;>simp
 rw[hc];unfold bp;refine⟨fun h=>?_,fun h=>⟨fun h2=>?_,fun h2=>?_⟩⟩
 ·rw[Oa];simp only[h,Bool.true_or]
 ·rw[Oa];simp only[h2,Bool.or_true]
 ·rw[N9];simp only[h,h2];simp
theorem mS {n:Int}:fi n=true↔1<=n/\n<=64:=by simp[fi]
theorem HM {g:Int} (h:0<=g):bg (gM g) free=gM (g+1):=by
 unfold bg gM;rw[show(g+1).toNat=g.toNat+1 by omega,List.replicate_succ']
theorem AB {i:Int} {o:Obj}:dU [] i o=1:=by unfold dU;rw[j8];rfl
theorem GC {L:List Obj} {i:Int} {o:Obj} (h:aC L i≠0):dU L i o=aC L i/\fG L i o=L:=by
 unfold dU fG;rw[N9 h,N9 (fun hh=>h hh.1)];exact⟨rfl,rfl⟩
theorem JL {L:List Obj} {i:Int} {o:Obj} (h:aC L i=0) (h2:bn o (aa L:Int)≠0):dU L i o=bn o (aa L:Int)/\fG L i o=L:=by
 unfold dU fG;rw[Oa h,N9 (fun hh=>h2 hh.2)];exact⟨rfl,rfl⟩
theorem HS {L:List Obj} {i:Int} {o:Obj} (h:aC L i=0) (h2:bn o (aa L:Int)=0):dU L i o=0/\fG L i o=gg L i.toNat o:=by
 unfold dU fG;rw[Oa h,Oa ⟨h,h2⟩];exact⟨h2,rfl⟩
theorem Fc {c:Bool} {M:List Obj} (hn:c=false) {v:V} {r:List ai} (h:IM c M v r):tJ (.tp [tG,.ci .i64 2]) v []:=by
 unfold IM at h;split at h
 ·split at h
  ·split at h
   ·split at h
    ·exact Ih (cK h.2)
    ·exact h.elim
   ·split at h
    ·split at h
     ·rw[hn]at h;simp at h
     ·exact h.elim
    ·exact h.elim
   ·exact h.elim
  ·exact h.elim
 ·exact h.elim
theorem FO {c:Bool} {M:List Obj} (hn:c=true) {v:V} {r:List ai} (h:IM c M v r):∃j b,v= .tp [.lp j 0,b]/\tJ (.ci .i64 0) b []/\yT r j=some (tS,eS,M):=by
 unfold IM at h;split at h
 ·split at h
  ·split at h
   ·split at h
    ·rw[hn]at h;simp at h
    ·exact h.elim
   ·split at h
    ·rename_i hst;split at h
     ·rename_i hc;simp only[N3,N5]at hc;obtain⟨⟨rfl,rfl⟩,rfl⟩:=hc;obtain⟨_,h2,rfl⟩:=h;exact⟨_,_,rfl,cK h2,hst⟩
     ·exact h.elim
    ·exact h.elim
   ·exact h.elim
  ·exact h.elim
 ·exact h.elim
theorem Ah {c:Bool} {M:List Obj} (hn:c=true) {v:V} {r:List ai} (h:IM c M v r):∃j r',yT r j=some (tS,eS,M)/\(r'=r\/ql r j=some r')/\ae r' j= .store tS eS M/\∀(κ:Nat->Option Nat) (i:Nat),κ j=some i->jb κ v (.tp [.lp i 0,.ci .i64 0]):=by
 obtain⟨j,b,rfl,hb,hst⟩:=FO hn h
 have ht:∀(κ:Nat->Option Nat) (i:Nat),κ j=some i->jb κ (.tp [.lp j 0,b]) (.tp [.lp i 0,.ci .i64 0]):=fun κ i hi ρ2 ρ3 N N' hv hN hk=>by
  obtain⟨s1,s2,_⟩:=hb ρ2 N;refine⟨?_,hN j i hi hk.1,by simp[ok,bG],trivial⟩
  simp only[den,aD,(hv j i hi).1,s1]
 rcases Fe hst with h1|⟨r',h1,h2⟩
 ·exact⟨j,r,hst,.inl rfl,h1,ht⟩
 ·exact⟨j,r',hst,.inr h1,h2,ht⟩
theorem Hl {x:V} {M:List Obj} {v:V} {r:List ai} (h:Mn x M v r):∃t,wY r 0=some (tS,eS,t,M)/\tJ x v r:=by
 unfold Mn at h;split at h
 ·rename_i hst;split at h
  ·rename_i hc;simp only[N3,N5]at hc;obtain⟨rfl,rfl⟩:=hc;obtain⟨h1,rfl⟩:=h;exact⟨_,hst,cK h1⟩
  ·exact h.elim
 ·exact h.elim
theorem My {P:Program} {f:Nat} {rest:List V} {res:List ai} {K KP:V->List ai->Prop} {k:Nat} {L M:List Obj} {x:V} (hr:ae res k= .store tS eS L) (hid:jy rest=true) (hx:gL x=true)
  (h:(∀o∈L,o.wf)->L.length<=9223372036854775807->aj P f (.lp 0 0::rest) [.blk tS (.ag [.sa 1]),.obs eS 2 L,.gen 1] (Mn x M) (fun _ _=>False)) (hK:K x (aM res k (.store tS eS M))):aj P f (.lp k 0::rest) res K KP:=by
 refine aj.GA hr hid hx ?_ hK;refine aj.fact (k:=0) rfl fun w1 w2=>?_
 refine aj.eY (k:=0) rfl ?_;refine aj.shut (h w1 w2) fun v r hv=>?_
 obtain⟨t,h1,h2⟩:=Hl hv;obtain⟨r',g1,g2⟩:=uq h1;exact .inr ⟨0,r',g1,fun J K=>h2 J K,g2⟩
theorem jI {l:List Obj}:bZ l=true↔1<=l.length/\l.length<=64/\∀i,i<l.length->ej (ay l i free) (l.length:Int)=true:=by
 unfold bZ aa;simp only[N3,N4,List.all_eq_true,List.mem_range,and_assoc]
theorem od {l:List Obj} (h:¬(1<=l.length/\l.length<=64/\∀i,i<l.length->ej (ay l i free) (l.length:Int)=true)):bZ l=false:=by
 cases hr:bZ l with
 |false=>rfl
 |true=>exact absurd (jI.1 hr) h
theorem rl {l:List Obj} {g:Int} (h1:g<=(l.length:Int)):(eT l g).length=l.length:=by
 unfold eT;simp only[List.length_append,List.length_take,List.length_replicate];omega
theorem EG {l:List Obj}:gM (l.length:Int)=eT l 0:=by unfold gM eT;simp
theorem Hu {l:List Obj} {g:Int} (h:(l.length:Int)<=g):eT l g=l:=by
 unfold eT;rw[List.take_of_length_le (by omega),show l.length-g.toNat=0 by omega];simp
theorem H3 {l:List Obj} {g:Int} (h0:0<=g) (h1:g<(l.length:Int)):gg (eT l g) g.toNat (ay l g.toNat free)=eT l (g+1):=by
 unfold gg eT ay;obtain⟨n,rfl⟩:=Int.eq_ofNat_of_zero_le h0;have hn:n<l.length:=by omega
 have e1:((n:Int)+1).toNat=n+1:=by omega
 have e2:((n:Int)).toNat=n:=by omega
 rw[e1,e2];apply List.ext_getElem?
 intro i;rw[List.getElem?_set];have hlt:(List.take n l++List.replicate (l.length-n) free).length=l.length:=by simp;omega
 have htl:(List.take n l).length=n:=by simp;omega
 have htl1:(List.take (n+1) l).length=n+1:=by simp;omega
 by_cases hi:n=i
 ·subst hi;rw[Oa rfl,Oa (by rw[hlt];exact hn),List.getElem?_append_left (by rw[htl1];omega),List.getElem?_take,Oa (by omega),N8,List.getElem?_eq_getElem hn];rfl
 ·rw[N9 hi];by_cases hl:i<n
  ·rw[List.getElem?_append_left (by rw[htl];exact hl),List.getElem?_append_left (by rw[htl1];omega),List.getElem?_take,List.getElem?_take,Oa hl,Oa (by omega)]
  ·rw[List.getElem?_append_right (by rw[htl];omega),List.getElem?_append_right (by rw[htl1];omega),htl,htl1,List.getElem?_replicate,List.getElem?_replicate]
   by_cases hb:i<l.length
   ·rw[Oa (by omega),Oa (by omega)]
   ·rw[N9 (by omega),N9 (by omega)]
theorem Kv {l:List Obj} {g:Int} (h0:0<=g) (h1:g<(l.length:Int)) (x:Obj):dU (eT l g) g x=bn x (l.length:Int):=by
 have hh:aC (eT l g) g=0:=iB.2 (by rw[rl (by omega)];exact⟨h0,h1⟩)
 unfold dU aa;rw[Oa hh,rl (by omega)]
theorem Ge {l:List Obj} {g:Int} (h0:0<=g) (h1:g<(l.length:Int)) (hx:bn (ay l g.toNat free) (l.length:Int)=0):fG (eT l g) g (ay l g.toNat free)=eT l (g+1):=by
 have hh:aC (eT l g) g=0:=iB.2 (by rw[rl (by omega)];exact⟨h0,h1⟩)
 unfold fG aa;rw[Oa ⟨hh,by rw[rl (by omega)];exact hx⟩]
 exact H3 h0 h1
theorem nz (o:Obj) (n:Int):(bn o n=0/\ej o n=true)\/(bn o n=2/\ej o n=false):=by
 unfold bn;cases ej o n<;>simp
theorem qh (k:Key):(aN k=true/\aE k=k.oid/\0<=k.oid)\/(aN k=false/\aE k= -1):=by
 have h:aE k=if aN k then k.oid else -1:=rfl
 cases hn:aN k
 ·exact .inr ⟨rfl,by rw[h,hn];rfl⟩
 ·refine .inl ⟨rfl,by rw[h,hn];rfl,?_⟩
  unfold aN at hn;simp only[N3]at hn;have:=hn.1;simp only[au,cH,hn.2,if_true,N3,N4]at this;omega
theorem xI (l:List Obj) (k:Key) (hl:l.length<=9223372036854775807):((decide (0<=aE k)&&decide (aE k<aG (aa l)))=true->aU IntKind.i64 (aG (aa l)-1))/\
  ((decide (0<=aE k)&&decide (aE k<aG (aa l)))=true->
    0<=np (aE k) (aG (aa l)-1)/\np (aE k) (aG (aa l)-1)< ↑(aa l))/\
    ((decide (0<=aE k)&&decide (aE k<aG (aa l)))=true->
      (np (aE k) (aG (aa l)-1)).toNat<aa l)/\
      (decide (0<=aE k)&&decide (aE k<aG (aa l))&&
        bS k (ay l (np (aE k) (aG (aa l)-1)).toNat free))=
       ew l k:=by
 unfold aG aa
 have hm:0<=aE k->aE k<(l.length:Int)->np (aE k) ((l.length:Int)-1)=aE k:=fun h1 h2=>by
  unfold np;rw[N9 (by omega)]
 simp only[N3,N4];refine⟨fun h=>by simp only[aU,bG];omega,fun h=>by rw[hm h.1 h.2];exact h,fun h=>by rw[hm h.1 h.2];omega,?_⟩
 rcases qh k with⟨h1,h2,h3⟩|⟨h1,h2⟩
 ·by_cases hh:k.oid<(l.length:Int)
  ·rw[hm (by omega) (by omega),h2]
   have h0:aC l k.oid=0:=iB.2 ⟨h3,hh⟩;unfold ew;simp[h1,h0,h3,hh]
  ·have h0:¬aC l k.oid=0:=fun h=>hh (iB.1 h).2
   unfold ew;rw[h2];simp[h0,hh]
 ·unfold ew;simp[h1,h2]
theorem BT (l:List Obj) (k:Key):((decide (aG (aa l)=0)|| !decide (aW k=0)||decide (0<=aE k)&& !ew l k)=true->void=bp l k)/\
  ((decide (aG (aa l)=0)|| !decide (aW k=0)||decide (0<=aE k)&& !ew l k)=false->k=bp l k):=by
 have hc:(!decide (aW k=0))= !au k:=by unfold aW;cases au k<;>simp
 have hd:decide (0<=aE k)=aN k:=by
  rcases qh k with⟨h1,h2,h3⟩|⟨h1,h2⟩
  ·rw[h1,h2];simpa using h3
  ·rw[h1,h2];simp
 have he:decide (aG (aa l)=0)=b6 l:=by
  unfold b6 aG;rw[decide_eq_decide];omega
 rw[hc,hd,he];unfold bp;exact⟨fun h=>by rw[h];rfl,fun h=>by rw[h];rfl⟩
end Go.Sx
namespace Go.Proofs.Ytmfbohanboiklaa
open Go.Sx
set_option maxRecDepth 100000
theorem DI:
 true=b6 []:=by
 rfl
theorem Fk (L:List Sx.Obj):
 decide (aG (aa L)=0)=b6 L:=by
 unfold b6 aG aa;rw[decide_eq_decide];omega
theorem mr:bV Try.prog 45 Je:=
 CH (fun _=>rfl) (aL (inl:=bz) (ann:=bW) aB DI (by kernel_rfl)) (fun L _ _=>aL (inl:=bz) (ann:=bW) aB (Fk L) (by kernel_rfl))
theorem Ie (i:Int):
 (b6 []=true->1=aC [] i)/\
  (b6 []=false->((!decide (i<0))=true->False)/\((!decide (i<0))=false->4=aC [] i)):=by
 exact⟨fun _=>rfl,fun h=>by simp[pJ]at h⟩
theorem FR (L:List Sx.Obj) (i:Int):
 (b6 L=true->1=aC L i)/\
  (b6 L=false->
   ((decide (i<0)||decide (aG (aa L)<=i))=true->4=aC L i)/\
     ((decide (i<0)||decide (aG (aa L)<=i))=false->0=aC L i)):=by
 refine⟨fun h=>?_,fun h=>?_⟩
 ·rw[tI.1 h];rfl
 ·rw[Ez h];unfold aG aa;refine⟨fun h1=>?_,fun h1=>?_⟩
  ·simp only[Bool.or_eq_true,N4]at h1;rw[Oa h1]
  ·simp only[Bool.or_eq_false_iff,decide_eq_false_iff_not]at h1;rw[N9 (by omega)]
theorem tj:bV Try.prog 24 Lk:=
 qP (fR .i64) (fun _ _=>rfl) (fun x _=>aL (inl:=bz) (ann:=bW) (an mr aB) (Ie x) (by kernel_rfl)) (fun L x _ _ _=>aL (inl:=bz) (ann:=bW) (an mr aB) (FR L x) (by kernel_rfl)) fun _=>rfl
theorem C6:
 (b6 []=true->0=dH [])/\(b6 []=false->False):=by
 exact⟨fun _=>rfl,fun h=>by simp[pJ]at h⟩
theorem Fv (L:List Sx.Obj):
 (b6 L=true->0=dH L)/\(b6 L=false->aG (aa L)=dH L):=by
 exact⟨fun h=>by rw[tI.1 h];rfl,fun _=>rfl⟩
theorem Gr:bV Try.prog 38 J5:=
 CH (fun _=>rfl) (aL (inl:=bz) (ann:=bW) (an mr aB) C6 (by kernel_rfl)) (fun L _ _=>aL (inl:=bz) (ann:=bW) (an mr aB) (Fv L) (by kernel_rfl))
theorem GH (i:Int):
 ((!decide (aC [] i=0))=true->free=bm [] i/\aC [] i=aC [] i)/\
   ((!decide (aC [] i=0))=false->False):=by
 exact⟨fun _=>⟨rfl,rfl⟩,fun h=>by simp[j8]at h⟩
theorem Hv (L:List Sx.Obj) (i:Int):
 ((!decide (aC L i=0))=true->free=bm L i/\aC L i=aC L i)/\
   ((!decide (aC L i=0))=false->
     (0<=i/\i< ↑(aa L))/\i.toNat<aa L/\i.toNat<aa L/\ay L i.toNat free=bm L i/\0=aC L i):=by
 refine⟨fun h=>⟨?_,rfl⟩,fun h=>?_⟩
 ·unfold bm;rw[N9 (by simpa using h)]
 ·have h:aC L i=0:=by simpa using h
  have hb:=iB.1 h;unfold bm aa;rw[Oa h,h];exact⟨hb,by omega,by omega,rfl,rfl⟩
theorem pe:bV Try.prog 26 L9:=
 qP (fR .i64) (fun _ _=>rfl) (fun x _=>aL (inl:=bz) (ann:=bW) (an tj aB) (GH x) (by kernel_rfl)) (fun L x _ _ _=>aL (inl:=bz) (ann:=bW) (an tj aB) (Hv L x) (by kernel_rfl)) fun _=>rfl
theorem BU (k:Key):
 ((!aN k)=true->free=gd [] k/\false=ew [] k)/\
   ((!aN k)=false->
     ((!decide (aC [] (dS k)=0)|| !bS k (bm [] (dS k)))=true->
       free=gd [] k/\false=ew [] k)/\
       ((!decide (aC [] (dS k)=0)|| !bS k (bm [] (dS k)))=false->
         bm [] (dS k)=gd [] k/\true=ew [] k)):=by
 exact u5 [] k
theorem B9 (L:List Sx.Obj) (k:Key):
 ((!aN k)=true->free=gd L k/\false=ew L k)/\
   ((!aN k)=false->
     ((!decide (aC L (dS k)=0)|| !bS k (bm L (dS k)))=true->
       free=gd L k/\false=ew L k)/\
       ((!decide (aC L (dS k)=0)|| !bS k (bm L (dS k)))=false->
         bm L (dS k)=gd L k/\true=ew L k)):=by
 exact u5 L k
theorem wu:bV Try.prog 75 H5:=
 qP fL (fun _ _=>rfl) (fun x _=>aL (inl:=bz) (ann:=bW) (an hJ (an pe (an s5 aB))) (BU x) (by kernel_rfl)) (fun L x _ _ _=>aL (inl:=bz) (ann:=bW) (an hJ (an pe (an s5 aB))) (B9 L x) (by kernel_rfl)) fun _=>rfl
end Go.Proofs.Ytmfbohanboiklaa
namespace Go.Proofs.Ytmfbohanboiklaa
open Go.Sx
set_option maxRecDepth 100000
theorem J6 (n:Int):
 ((decide (n<1)||decide (64<n))=true->fi n=false/\True)/\
   ((decide (n<1)||decide (64<n))=false->
     (∃g,vx n g/\Value.pointer none=Value.pointer none/\n=n/\0=g/\ []=gM g)/\
      ∀(g:Int),
       vx n g->
        (decide (g<n)=true->
          eC (aa (gM g)) 8/\
           aU IntKind.i64 (g+1)/\
            ∃g',
             vx n g'/\
              (n-g').toNat<(n-g).toNat/\
               Value.pointer none=Value.pointer none/\
                n=n/\g+1=g'/\bg (gM g) free=gM g')/\
         (decide (g<n)=false->fi n=true/\True/\gM g=gM n)):=by
 refine⟨fun h=>⟨?_,trivial⟩,fun h=>⟨⟨0,?_,rfl,rfl,rfl,rfl⟩,fun g hg=>⟨fun hlt=>?_,fun hge=>?_⟩⟩⟩
 ·simp only[Bool.or_eq_true,N4]at h;unfold fi;rw[Bool.and_eq_false_iff,decide_eq_false_iff_not,decide_eq_false_iff_not];omega
 ·simp only[Bool.or_eq_false_iff,decide_eq_false_iff_not]at h;exact⟨by omega,by omega⟩
 ·simp only[Bool.or_eq_false_iff,decide_eq_false_iff_not]at h;obtain⟨g0,g1⟩:=hg;have hlt:=N7 hlt;refine⟨?_,?_,g+1,⟨by omega,by omega⟩,by omega,rfl,rfl,rfl,HM g0⟩
  ·unfold eC aa gM;simp only[List.length_replicate,maxLen];omega
  ·simp only[aU,bG];omega
 ·simp only[Bool.or_eq_false_iff,decide_eq_false_iff_not]at h;obtain⟨g0,g1⟩:=hg;have hge:=N6 hge;exact⟨mS.2 (by omega),trivial,by rw[show g=n by omega]⟩
theorem D6 (n:Int):aj Try.prog 44 [.it .i64 n] [] (Ns n) (fun _ _=>False):=aL (inl:=bz) (ann:=(jM [(44,5,NO [2,3,4,13] (fun g=> [(14,.it .i64 g)]) 0 tS eS gM (vx n) n)])) aB (J6 n) (by kernel_rfl)
theorem JY:si Try.prog 44 Ii:=by
 intro args res K KP h;unfold Ii at h;split at h
 ·split at h
  ·rename_i n hn;refine aj.args (gq.rd (fR .i64) hn gq.nil) ?_;cases hb:fi n with
   |false=>exact aj.pure rfl rfl ((D6 n).mono (fun v r hv=>Fc hb hv) fun _ _ h=>h) (h.1 hb)
   |true=>
    refine aj.Gg (F:=fun j=> .tp [.lp j 0,.ci .i64 0]) rfl ?_ (h.2 hb)
    refine aj.shut (D6 n) fun v r hv=>?_
    obtain⟨j,r',_,h1,h2,h3⟩:=Ah hb hv;rcases h1 with rfl|h1
    ·exact .inl ⟨j,h2,h3⟩
    ·exact .inr ⟨j,r',h1,j,h2,h3⟩
  ·exact h.elim
 ·exact h.elim
theorem G2 (i:Int) (o:Sx.Obj):
 ((!decide (aC [] i=0))=true->aC [] i=dU [] i o)/\((!decide (aC [] i=0))=false->False):=by
 refine⟨fun _=>?_,fun h=>by simp[j8]at h⟩
 rw[AB,j8]
theorem HQ (i:Int) (o:Sx.Obj):aj Try.prog 12 [tG,.it .i64 i,.ob o] [] (pW (.it .i64 (dU [] i o))) (fun _ _=>False):=aL (inl:=bz) (ann:=bW) (an tj (an vh aB)) (G2 i o) (by kernel_rfl)
theorem GX (L:List Sx.Obj) (i:Int) (o:Sx.Obj):
 ((!decide (aC L i=0))=true->aC L i=dU L i o/\L=fG L i o)/\
   ((!decide (aC L i=0))=false->
     ((!decide (bn o (aG (aa L))=0))=true->bn o (aG (aa L))=dU L i o/\L=fG L i o)/\
       ((!decide (bn o (aG (aa L))=0))=false->
         (0<=i/\i< ↑(aa L))/\i.toNat<aa L/\0=dU L i o/\gg L i.toNat o=fG L i o)):=by
 refine⟨fun h=>?_,fun h=>⟨fun h2=>?_,fun h2=>?_⟩⟩
 ·obtain⟨a,b⟩:=GC (o:=o) (show aC L i≠0 by simpa using h)
  rw[a,b];exact⟨rfl,rfl⟩
 ·obtain⟨a,b⟩:=JL (o:=o) (show aC L i=0 by simpa using h) (show bn o (aa L:Int)≠0 by unfold aG at h2;simpa using h2)
  rw[a,b];exact⟨rfl,rfl⟩
 ·have h:=(show aC L i=0 by simpa using h)
  have hb:=iB.1 h;obtain⟨a,b⟩:=HS (o:=o) h (show bn o (aa L:Int)=0 by unfold aG at h2;simpa using h2)
  rw[a,b];exact⟨hb,by unfold aa;omega,rfl,rfl⟩
theorem H9 (L:List Sx.Obj) (i:Int) (o:Sx.Obj):aj Try.prog 12 [.lp 0 0,.it .i64 i,.ob o] [.blk tS (.ag [.sa 1]),.obs eS 2 L,.gen 1] (Mn (.it .i64 (dU L i o)) (fG L i o)) (fun _ _=>False):=aL (inl:=bz) (ann:=bW) (an tj (an vh aB)) (GX L i o) (by kernel_rfl)
theorem Gv (i:Int) (o:Sx.Obj):
 ((!decide (aC [] i=0))=true->aC [] i=dU [] i o)/\
   ((!decide (aC [] i=0))=false->
     ((!decide (bn o 0=0))=true->bn o 0=dU [] i o)/\((!decide (bn o 0=0))=false->False)):=by
 refine⟨fun _=>?_,fun h=>by simp[j8]at h⟩
 rw[AB,j8]
theorem HC (i:Int) (o:Sx.Obj):aj Try.prog 12 [.lp 0 0,.it .i64 i,.ob o] [.ro (.blk tS (.ag [.nl (.slice none 0 0)]))] (pW (.it .i64 (dU [] i o))) (fun _ _=>False):=aL (inl:=bz) (ann:=bW) (an tj (an vh aB)) (Gv i o) (by kernel_rfl)
theorem Jd:si Try.prog 12 IL:=by
 intro args res K KP h;unfold IL at h;split at h
 ·split at h
  ·rename_i i hi;split at h
   ·rename_i o ho;refine aj.args (gq.eZ (gq.rd (fR .i64) hi (gq.rd uV ho gq.nil))) ?_;split at h
    ·split at h
     ·exact aj.pure rfl rfl ((HQ i o).mono (fun _ _ h=>cK h) fun _ _ h=>h) h
     ·exact h.elim
    ·split at h
     ·rename_i hoff;have hoff:=N5.1 hoff;subst hoff;split at h
      ·rename_i hr;split at h
       ·rename_i hc;simp only[N3,N5]at hc;obtain⟨rfl,rfl⟩:=hc;exact My hr rfl rfl (fun _ _=>H9 _ i o) h
       ·exact h.elim
      ·rename_i hr;split at h
       ·rename_i hc;simp only[N3,N5]at hc;obtain⟨rfl,hz⟩:=hc;have:=CO hz;subst this;refine aj.L5 (r0:= .blk tS (.ag [.nl (.slice none 0 0)])) (by unfold br;rw[hr]) (by simp) (fun κ=>rfl) rfl rfl ((HC i o).mono (fun _ _ h=>cK h) fun _ _ h=>h) h
       ·exact h.elim
      ·exact h.elim
     ·exact h.elim
    ·exact h.elim
   ·exact h.elim
  ·exact h.elim
 ·exact h.elim
theorem EJ (l:List Sx.Obj) (hl:l.length<=9223372036854775807):
 ((decide (aG (aa l)<1)||decide (64<aG (aa l)))=true->false=bZ l)/\
   ((decide (aG (aa l)<1)||decide (64<aG (aa l)))=false->
     (∃g,mh l g/\false=false/\0=g/\l=l)/\
      ∀(g:Int),
       mh l g->
        (decide (g<aG (aa l))=true->
          (0<=g/\g< ↑(aa l))/\
           g.toNat<aa l/\
            ((!decide (bn (ay l g.toNat free) (aG (aa l))=0))=true->false=bZ l)/\
              ((!decide (bn (ay l g.toNat free) (aG (aa l))=0))=false->
                aU IntKind.i64 (g+1)/\
                 ∃g',
                  mh l g'/\
                   (aG (aa l)-g').toNat<(aG (aa l)-g).toNat/\
                    false=false/\g+1=g'/\l=l))/\
         (decide (g<aG (aa l))=false->true=bZ l)):=by
 refine⟨fun h=>?_,fun h=>⟨⟨0,⟨by omega,by omega,fun j hj=>by omega⟩,rfl,rfl,rfl⟩,fun g hg=>⟨fun hlt=>?_,fun hge=>?_⟩⟩⟩
 ·simp only[Bool.or_eq_true,N4]at h;simp only[nV]at h;exact(od fun hh=>by have h1:=hh.1;have h2:=hh.2.1;omega).symm
 ·obtain⟨g0,g1,g2⟩:=hg;have hlt:=N7 hlt;unfold aG at *;refine⟨⟨g0,hlt⟩,by omega,fun hb=>(od fun hh=>?_).symm,fun hb=>⟨?_,g+1,⟨by omega,by omega,fun j hj=>?_⟩,by omega,rfl,rfl,rfl⟩⟩
  ·have:=hh.2.2 g.toNat (by unfold aa at hlt;omega)
   unfold bn aa at hb;rw[this]at hb;simp at hb
  ·simp only[aU,bG];unfold aa at *;omega
  ·by_cases e:(j:Int)<g
   ·exact g2 j e
   ·have:j=g.toNat:=by omega
    subst this;rcases nz (ay l g.toNat free) (aa l:Int)with⟨h1,h2⟩|⟨h1,h2⟩
    ·exact h2
    ·rw[h1]at hb;simp at hb
 ·obtain⟨g0,g1,g2⟩:=hg;have hge:=N6 hge;have hle:=rF l;simp only[Bool.or_eq_false_iff,decide_eq_false_iff_not]at h;simp only[nV]at h hge;exact(jI.2 ⟨by omega,by omega,fun i hi=>g2 i (by omega)⟩).symm
theorem C2:bV Try.prog 20 Gz:=IY (fun _=>rfl) fun l _ hl=>aL (inl:=bz) (ann:=(jM [(20,4,FL [0,2] (fun g=> [(3,.it .i64 g)]) (mh l) (aG (aa l)))])) (an Dy aB) (EJ l hl) (by kernel_rfl)
theorem yo (l:List Sx.Obj) (k:Key) (hl:l.length<=9223372036854775807):
 ((decide (0<=aE k)&&decide (aE k<aG (aa l)))=true->aU IntKind.i64 (aG (aa l)-1))/\
   ((decide (0<=aE k)&&decide (aE k<aG (aa l)))=true->
     0<=np (aE k) (aG (aa l)-1)/\np (aE k) (aG (aa l)-1)< ↑(aa l))/\
     ((decide (0<=aE k)&&decide (aE k<aG (aa l)))=true->
       (np (aE k) (aG (aa l)-1)).toNat<aa l)/\
       (decide (0<=aE k)&&decide (aE k<aG (aa l))&&
         bS k (ay l (np (aE k) (aG (aa l)-1)).toNat free))=
        ew l k:=by
 exact xI l k hl
theorem zF:bV Try.prog 57 Bk:=AL fL (fun _ _=>rfl) (fun l k _ hl _=>aL (inl:=bz) (ann:=bW) (an jO (an yO aB)) (yo l k hl) (by kernel_rfl)) fun _=>rfl
theorem LN (l:List Sx.Obj) (hl:l.length<=9223372036854775807):
 true=true/\
  (fi (aG (aa l))=false->bZ l=false/\True)/\
   (fi (aG (aa l))=true->
    (∃g,
      mh l g/\
       Value.pointer none=Value.pointer none/\
        aG (aa l)=aG (aa l)/\0=g/\l=l/\gM (aG (aa l))=eT l g)/\
     ∀(g:Int),
      mh l g->
       (decide (g<aG (aa l))=true->
         (0<=g/\g< ↑(aa l))/\
          g.toNat<aa l/\
           true=true/\
            ((!decide (dU (eT l g) g (ay l g.toNat free)=0))=true->
              bZ l=false/\dU (eT l g) g (ay l g.toNat free)=2)/\
              ((!decide (dU (eT l g) g (ay l g.toNat free)=0))=false->
                aU IntKind.i64 (g+1)/\
                 ∃g',
                  mh l g'/\
                   (aG (aa l)-g').toNat<(aG (aa l)-g).toNat/\
                    Value.pointer none=Value.pointer none/\
                     aG (aa l)=aG (aa l)/\
                      g+1=g'/\l=l/\fG (eT l g) g (ay l g.toNat free)=eT l g'))/\
        (decide (g<aG (aa l))=false->bZ l=true/\True/\eT l g=l)):=by
 refine⟨rfl,fun h=>⟨od fun hh=>?_,trivial⟩,fun h=>⟨⟨0,⟨by omega,by omega,fun j hj=>by omega⟩,rfl,rfl,rfl,rfl,EG⟩,fun g hg=>⟨fun hlt=>?_,fun hge=>?_⟩⟩⟩
 ·have:fi (aG (aa l))=true:=mS.2 (by unfold aG aa;omega)
  rw[this]at h;simp at h
 ·obtain⟨g0,g1,g2⟩:=hg;have hlt:=N7 hlt;have h:=mS.1 h;have hle:=rF l;simp only[nV]at *;rw[Kv g0 hlt];refine⟨⟨g0,hlt⟩,by omega,trivial,fun hb=>⟨od fun hh=>?_,?_⟩,fun hb=>⟨?_,g+1,⟨by omega,by omega,fun j hj=>?_⟩,by omega,trivial,trivial,rfl,trivial,Ge g0 hlt (by simpa using hb)⟩⟩
  ·have:=hh.2.2 g.toNat (by omega)
   unfold bn at hb;rw[this]at hb;simp at hb
  ·rcases nz (ay l g.toNat free) (l.length:Int)with⟨h1,h2⟩|⟨h1,h2⟩
   ·rw[h1]at hb;simp at hb
   ·exact h1
  ·simp only[aU,bG];omega
  ·by_cases e:(j:Int)<g
   ·exact g2 j e
   ·have:j=g.toNat:=by omega
    subst this;rcases nz (ay l g.toNat free) (l.length:Int)with⟨h1,h2⟩|⟨h1,h2⟩
    ·exact h2
    ·rw[h1]at hb;simp at hb
 ·obtain⟨g0,g1,g2⟩:=hg;have hge:=N6 hge;have h:=mS.1 h;have hle:=rF l;simp only[nV]at *;exact⟨jI.2 ⟨by omega,by omega,fun i hi=>g2 i (by omega)⟩,trivial,Hu (by omega)⟩
theorem IH (l:List Sx.Obj) (own:Option Nat):aj Try.prog 21 [.sa 0] [.ro (.arr own 163 (.ob l))] (Mf l) (fun _ _=>False):=
 aj.Li (aj.C9 (k:=0) rfl fun _ hl=>(cT (inl:=bz) (ann:=(jM [(21,5,ND [0,2,3,4,5,18,19] (fun g=> [(20,.it .i64 g)]) 1 (fun g=> .store tS eS (eT l g)) (mh l) (aG (aa l)))])) aB (cg JY (cg Jd cP)) (LN l hl) (by kernel_rfl):aj Try.prog 21 [.sa 0] [.ro (.arr none 163 (.ob l))] (Mf l) (fun _ _=>False)))
theorem Ix:si Try.prog 21 JZ:=by
 intro args res K KP h;unfold JZ at h;split at h
 ·split at h
  ·split at h
   ·rename_i hr;split at h
    ·rename_i he;have he:=N5.1 he;subst he;split at h
     ·rename_i l;cases hb:bZ l with
      |false=>exact aj.L4 hr rfl rfl ((IH l _).mono (fun v r hv=>Fc hb (zQ hv).1) fun _ _ h=>h) (h.1 hb)
      |true=>
       refine aj.Ef (F:=fun j=> .tp [.lp j 0,.ci .i64 0]) hr rfl ?_ (h.2 hb)
       refine aj.shut (IH l _) fun v r hv=>?_
       obtain⟨hv,h0⟩:=zQ hv;obtain⟨j,r',hs,h1,h2,h3⟩:=Ah hb hv
       have hj:1<=j:=by
        rcases Nat.eq_zero_or_pos j with rfl|hj
        ·rw[h0]at hs;simp at hs
        ·exact hj
       rcases h1 with rfl|h1
       ·exact .inl ⟨j,hj,h2,h3⟩
       ·exact .inr ⟨j,r',h1,j,hj,h2,h3⟩
     ·exact h.elim
    ·exact h.elim
   ·exact h.elim
  ·exact h.elim
 ·exact h.elim
end Go.Proofs.Ytmfbohanboiklaa
namespace Go.Sx
def ff (r b:Int):Bool:=decide ((r.tdiv b).tmod 2=1)
def cL (r m g:Int):Int:=(if 2<=g/\(ff r 1||ff m 1)=true then 1 else 0)+(if 4<=g/\(ff r 2||ff m 2)=true then 2 else 0)+(if 8<=g/\(ff r 4||ff m 4)=true then 4 else 0)
def gE (r m:Int):Int:=cL r m 8
def pO (g:Int):Prop:=g=1\/g=2\/g=4\/g=8
def tQ (k:Key) (r:Int):Key:= {k with rights:=r}
def eF (k:Key):Key:=if k.kind=2 then tQ k (gE k.rights 3)else if k.kind=3 then tQ k 1 else if k.kind=1\/k.kind=8 then k else void
def cE (k:Key):Key:=if au k then eF k else void
def FZ:Ct:=Jr (rI .i64) (rI .i64) fun r m=> .it .i64 (gE r m)
def Gk:Ct:=FM rK fun k=> .key (eF k)
def EY:Ct:=FM rK fun k=> .tp [.key (cE k),.it .i64 (aW k)]
def bJ (k:Key):Bool:=decide ((k.rights.tdiv 2).tmod 2=1)
def vy (L:List Obj) (o:Obj) (k:Key) (i:Int):Key:=if bJ k then eF (bp L (o.slots.at i.toNat))else bp L (o.slots.at i.toNat)
def df (L:List Obj) (k:Key) (i:Int):Key:=vy L (ay L k.oid.toNat free) k i
def vv (L:List Obj) (k:Key) (i:Int):Prop:=0<=i/\i<16/\0<=k.oid/\k.oid<(aa L:Int)
def dg (L:List Obj):Prop:=bZ L=true
def bP (g:Int):Prop:=0<=g/\g<=16
def kA:Arg Key:=Df rK V.key
def iA:Arg Int:=Df (rI .i64) (V.it .i64)
def bA:Arg Bool:=Df toBool V.bo
def FK (o:Option (List Obj)):List Obj:=match o with
 |none=> []
 |some L=>L
def Kp:Ct:=H6 (bR Iv (bR kA (bR iA ji))) (fun x=>some (vv x.1 x.2.1 x.2.2.1)) fun x=> .key (df x.1 x.2.1 x.2.2.1)
theorem vr {r g:Int} (hr:bG .i64 r) (hg:g=1\/g=2\/g=4\/g=8):bG .i64 (r.tdiv g):=by
 simp only[bG]at *;rcases Int.le_total 0 r with h|h
 ·rw[Int.tdiv_eq_ediv_of_nonneg h];rcases hg with rfl|rfl|rfl|rfl<;>omega
 ·obtain⟨s,rfl⟩:∃s,r= -s:=⟨-r,by omega⟩
  rw[Int.neg_tdiv,Int.tdiv_eq_ediv_of_nonneg (by omega)]
  rcases hg with rfl|rfl|rfl|rfl<;>omega
theorem sk (x:Int):bG .i64 (x.tmod 2):=by
 have h1:=Int.tmod_lt_of_pos x (show(0:Int)<2 by omega)
 have h2:=Int.lt_tmod_of_pos x (show(0:Int)<2 by omega)
 simp only[bG];omega
theorem CJ {r m g:Int}:0<=cL r m g/\cL r m g<=7:=by
 unfold cL;repeat' split
 all_goals omega
theorem CG {r:Int} (h0:0<=r) (h1:r<=7):cG .or .i64 r 3=gE r 3:=by
 have:r=0\/r=1\/r=2\/r=3\/r=4\/r=5\/r=6\/r=7:=by omega
 rcases this with rfl|rfl|rfl|rfl|rfl|rfl|rfl|rfl<;>decide
theorem Ec {r:Int} (h0:0<=r) (h1:r<=1):cG .or .i64 r 1=1:=by
 have:r=0\/r=1:=by omega
 rcases this with rfl|rfl<;>decide
theorem kq {k:Key} (h:au k=true):0<=k.rights/\k.rights<=fk k.kind:=by
 simp only[au,N3,N4]at h;omega
theorem zc:au void=true:=by decide
theorem kC (L:List Obj) (k:Key):au (bp L k)=true:=by
 unfold bp;split
 ·exact zc
 ·rename_i h;simp only[Bool.or_eq_true,not_or,Bool.not_eq_true,Bool.not_eq_false']at h;exact h.1.2
theorem qe (L:List Obj) (k:Key):cE (bp L k)=eF (bp L k):=by unfold cE;rw[kC,Oa rfl]
theorem Nl {r:Int} (h0:0<=r) (h1:r<=7):decide (cG .and .i64 r 2=0)= !decide ((r.tdiv 2).tmod 2=1):=by
 have:r=0\/r=1\/r=2\/r=3\/r=4\/r=5\/r=6\/r=7:=by omega
 rcases this with rfl|rfl|rfl|rfl|rfl|rfl|rfl|rfl<;>decide
theorem Gs (n:Int):fk n<=7:=by unfold fk;split<;>(try split)<;>omega
theorem xw {k:Key} (h:au k=true):0<=k.rights/\k.rights<=7:=by
 have:=kq h;have:=Gs k.kind;omega
theorem zN:kR kA:=vJ fL (fun _=>rfl) fun v x h=>K4 h
theorem LS:kR bA:=vJ EI (fun _=>rfl) fun v x h=>by cases v<;>simp[toBool]at h<;>rfl
theorem jP:kR iA:=vJ (fR .i64) (fun _=>rfl) fun v x h=>by cases v<;>simp[rI,toInt]at h<;>rfl
structure NA where
 kind:Int
 slot:Int
 key:Key
 other:Key
def fj (l:List Obj):Bool:=decide ((aa l:Int)<=20)&&bZ l
def JK:pd:=LM (bR Iv ji) (fun _=>True) (fun x=>fj x.1) (fun _=>tG) (fun _ n=> .lp n 0) (fun x=> .store tS eS x.1)
def NA.wf (x:NA):Prop:=bG .i64 x.kind/\bG .i64 x.slot/\x.key.wf/\x.other.wf
section
variable {L:List Obj} {k:Key} {s:cj} (h0:0<=k.oid) (h1:k.oid<(L.length:Int))
include h0 h1
end
end Go.Sx
set_option maxRecDepth 100000
namespace Go.Sx
end Go.Sx
set_option maxRecDepth 100000
namespace Go.Sx
def MW {α:Type} (B:kS α) (l:List V):Option α:=match B.rd [] l with
 |some p=>match p.1 with
  | []=>some p.2
  |_=>none
 |none=>none
theorem Kn {α:Type} {B:kS α} (hB:j7 B) (hid:∀a,jy (B.cn a 0)=true):∀l x,MW B l=some x->gq l (B.cn x 0):=fun l x h=>by
 unfold MW at h;split at h
 case h_2=>simp at h
 rename_i p hp;obtain⟨pls,a⟩:=p;split at h
 case h_2=>simp at h
 rename_i h1;simp only at h1;subst h1;simp only[N1]at h;subst h;obtain⟨_,_,_,b4⟩:=hB _ _ _ _ hp;obtain⟨c1,c2⟩:=b4 [] [];intro J K hk;have e1:=(c1 J K hk).1;have e2:=c2 K hk;have e3:cq (fun _=>False) (B.cn a 0):=kb _ (hid a) e2
 refine⟨?_,kb _ (hid a) e2⟩;rw[<-e1];exact cx (N:=fun _=>False) (fun _ h=>h.elim) _ e3
theorem fg {L:List Obj} (h:dg L):1<=L.length/\L.length<=64:=⟨(jI.1 h).1,(jI.1 h).2.1⟩
end Go.Sx
