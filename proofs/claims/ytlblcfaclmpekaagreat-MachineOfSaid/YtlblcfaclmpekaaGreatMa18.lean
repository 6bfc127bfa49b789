import Derived.Test.YtlblcfaclmpekaaGreatMa17
import Derived.OpenShut
import Derived.Deep.Slices
import Derived.ChangeArms
import Derived.ChangeSame
import Derived.ChangeBook
import Derived.RowKit
import Derived.ProofKit
import Derived.ChangeMaps5
import Derived.SizedLaws
import Derived.Handed
set_option linter.unusedSimpArgs false
set_option linter.unusedVariables false
set_option maxRecDepth 100000
namespace Go.Proofs.YtlblcfaclmpekaaGreat
open Go.Sx
theorem Re (l:List Sx.Obj):
 aba (decide (20<bD (ai l))|| !fN l) (nM l=false/\Value.pointer none=Value.pointer none) (true=true/\(fN l=false->nM l=false/\Value.pointer none=Value.pointer none)/\(fN l=true->nM l=true/\∀(nid:Nat),some (V.lp nid 0)=some (V.lp nid 0)/\some [aK.store 102 106 l]=some [aK.store 102 106 l])):=by
 delta aba
 refine⟨fun h=>⟨?_,rfl⟩,fun h=>⟨rfl,fun hr=>⟨?_,rfl⟩,fun hr=>⟨?_,fun nid=>⟨rfl,rfl⟩⟩⟩⟩
 ·unfold nM;unfold bD at h;rw[Bool.or_eq_true,aa3,Bool.not_eq_true']at h;rcases h with h|h
  ·rw[decide_eq_false (by omega)];rfl
  ·rw[h];simp
 ·unfold nM;rw[hr];simp
 ·unfold nM;unfold bD at h;rw[hr]at h⊢;rw[Bool.and_true,aa3];simp at h;omega
theorem Th:kL Tryz.prog 22 XJ:=
 Ac (aA jb bV) (fun _=>rfl) (fun _=>by simp) fun a _ hok=>by
  obtain⟨l,_⟩:=a;exact bj (inl:=bx) (ann:=aQ) (ae Pj aq) (aB Z2 aD) (Re l) (by kernel_rfl)
theorem WT (n:Int) (L:List Sx.Obj):
 true=true/\∀(nid:Nat),some (V.it IntKind.i64 n)=some (V.it IntKind.i64 n)/\some ([]:List aK)=some []:=by
 exact⟨rfl,fun _=>⟨rfl,rfl⟩⟩
theorem X3:cq Tryz.prog 14 aaA:=PN (π:= []) (by simp) (fun _=>rfl) fun n L _=>ba (inl:=(fun f=>f==32)) (ann:=aQ) aq (WT n L) (by kernel_rfl)
theorem WK (n:Int) (L:List Sx.Obj) (hq:ai L<=1000/\bn L=false):
 true=true/\true=true/\(ai L).le 1000/\aba (bn L) (∀(nid:Nat),some (V.nl (Value.pointer none))=some (V.lp nid 0)/\none=some [aK.store tS eS L]) (∀(nid: Nat),some (V.lp nid 0)=some (V.lp nid 0)/\some [aK.store tS eS L]=some [aK.store tS eS L]):=by
 delta aba
 exact⟨rfl,rfl,hq.1,fun h=>by rw[hq.2]at h;simp at h,fun _ _=>⟨rfl,rfl⟩⟩
theorem Yc:cq Tryz.prog 16 aas:=PN (π:= [2]) (by simp) (fun _=>rfl) fun n L hq=>bj (inl:=(fun f=>f==32)) (ann:=aQ) aq (aB vE aD) (WK n L hq) (by kernel_rfl)
theorem NY (x:List iW) (L:List Sx.Obj) (n:Int) (hq:BC (ly x) L n):
 (∃g,oy (ai x) g/\0=g.fst/\n=g.snd.fst/\L=g.snd.snd/\L=L/\ai x=ai x/\(xE x=xE x)/\n=g.snd.fst/\L=g.snd.snd)/\∀(g:Int×Int×List Sx.Obj),oy (ai x) g->aba (decide (g.fst<bD (ai x))) ((0<=g.fst/\g.fst< ↑(ai x))/\g.fst.toNat<ai x/\true=true/\(ar g.snd.snd/\aw (aj x g.fst.toNat m5).data/\gQ g.snd.fst)/\(0<=g.fst/\g.fst< ↑(ai x))/\g.fst.toNat<ai x/\(aw (aj x g.fst.toNat m5).data/\gQ g.snd.fst)/\aba (!U1 x g) (aba (!dnZ (ZN x g)|| !decide (Vf x g=2)) (false=true) (abd (g.fst+1)/\∃g',oy (ai x) g'/\oH (ai x) g'<oH (ai x) g/\g.fst+1=g'.fst/\Kr x g=g'.snd.fst/\Dj x g=g'.snd.snd/\L=L/\ai x=ai x/\(xE x=xE x)/\g.snd.fst=g'.snd.fst/\g.snd.snd=g'.snd.snd)) ((0<=g.fst/\g.fst< ↑(ai x))/\g.fst.toNat<ai x/\true=true/\((ar g.snd.snd/\aw (aj x g.fst.toNat m5).data/\gQ g.snd.fst)/\U1 x g=true)/\(Dj x g=g.snd.snd->((!Vd x g)=true/\(ai (Dj x g)).le 1000/\bn (Dj x g)=false)/\aba (Vd x g|| !gO (Dj x g) g.snd.snd) (false=true) (abd (g.fst+1)/\∃g',oy (ai x) g'/\oH (ai x) g'<oH (ai x) g/\g.fst+1=g'.fst/\Kr x g=g'.snd.fst/\Dj x g=g'.snd.snd/\L=L/\ai x=ai x/\(xE x=xE x)/\Kr x g=g'.snd.fst/\g.snd.snd=g'.snd.snd))/\((!Vd x g)=true/\(ai (Dj x g)).le 1000/\bn (Dj x g)=false)/\aba (Vd x g|| !gO (Dj x g) (Dj x g)) (false=true) (abd (g.fst+1)/\∃g',oy (ai x) g'/\oH (ai x) g'<oH (ai x) g/\g.fst+1=g'.fst/\Kr x g=g'.snd.fst/\Dj x g=g'.snd.snd/\L=L/\ai x=ai x/\(xE x=xE x)/\Kr x g=g'.snd.fst/\Dj x g=g'.snd.snd))) (true=true):=by
 delta aba abd
 obtain⟨hxs,hxl⟩:=rnX hq;refine⟨⟨(0,n,L),⟨Int.le_refl _,by simp only;omega,hq.2.1,hq.1⟩,rfl,rfl,rfl,rfl,rfl,rfl,rfl,rfl⟩,fun g hg=>⟨fun hlt=>?_,fun _=>rfl⟩⟩
 have hlt:g.fst<(ai x:Int):=aa6 hlt;obtain⟨g0,g1,g2,g3⟩:=id hg;have hi:g.fst.toNat<ai x:=by omega
 have hS:=hxs g.fst.toNat hi;have hw:aF .i64 (g.fst+1):=by simp only[aF,bY];omega
 have st:=TV hg hlt;refine⟨⟨g0,hlt⟩,hi,rfl,⟨g3,hS,g2⟩,⟨g0,hlt⟩,hi,⟨hS,g2⟩,fun hR=>?_,fun hR=>?_⟩
 ·obtain⟨e1,e2,e3,e4⟩:=YU (x:=x) (g:=g) (by simpa using hR)
  refine⟨fun h=>?_,fun _=>⟨hw,(g.fst+1,g.snd.fst,g.snd.snd),(st _ _ g2 g3).1,(st _ _ g2 g3).2,rfl,e1,e2,rfl,rfl,rfl,rfl,rfl⟩⟩
  rw[e3,e4,aap]at h;simp at h
 ·have hR:U1 x g=true:=by simpa using hR
  obtain⟨e4,hc⟩:=W3 hR;have k1:ar (Dj x g):=W5 g3;have k2:gQ (Kr x g):=Yu g2;have hb:=H3 k1;rw[hc];refine⟨⟨g0,hlt⟩,hi,rfl,⟨⟨g3,hS,g2⟩,hR⟩,fun hE=>⟨⟨rfl,hb⟩,fun h=>?_,fun _=>⟨hw,(g.fst+1,Kr x g,g.snd.snd),(st _ _ k2 g3).1,(st _ _ k2 g3).2,rfl,rfl,hE,rfl,rfl,rfl,rfl,rfl⟩⟩,⟨rfl,hb⟩,fun h=>?_,fun _=>⟨hw,(g.fst+1,Kr x g,Dj x g),(st _ _ k2 k1).1,(st _ _ k2 k1).2,rfl,rfl,rfl,rfl,rfl,rfl,rfl,rfl⟩⟩
  ·rw[hE,hU]at h;simp at h
  ·rw[hU]at h;simp at h
theorem Pg:kL Tryz.prog 17 CL:=XL fun x L n hq=>bj (inl:=bx) (ann:=(iv [(17,2,aaY [0,2,4] 7 4 5 (oy (ai x)) (oH (ai x)))])) (ae Iy (ae I3 (ae X3 (ae Yc aq)))) (aB HY (aB Ls aD)) (NY x L n hq) (by kernel_rfl)
abbrev aci(l:List Sx.Obj)(n:Int):=decide (bD (ai l)<4)||decide (n<0)||decide (4611686018427387904<n)
theorem Vt (l:List Sx.Obj) (n:Int) (x:List iW) (hx:vX x):
 abb (True/\(nM l=false->true=true)/\(nM l=true->Nj (ly x)/\aba (qY (ly x)) (true=true) (abb (aba (decide (ak l=0)) (aba (aci l n) (false=true) (false=true)) (aba (decide (ak l<4)||decide (n<0)||decide (4611686018427387904<n)) (aba (aci l n) (true=true) (false=true)) (abb ((ai l).le 1000/\aba (bn l) (aba (aci l n) (false=true) (abb (abb (aba (gO [] l) (abb False) (false=true))))) (aba (aci l n) (false=true) (abb (abb (abb ((ai l).le 1000/\aba (bn l) (aba (gO [] l) (abb ((BC (ly x) l n/\l=l/\n=n)/\∀ (n':Int) (M':List Sx.Obj),(true&&gO l l&&true)=true)) (false=true)) (aba (gO l l) (abb ((BC (ly x) l n/\l=l/\n=n)/\∀(n':Int) (M':List Sx.Obj),(true&&gO l l&&true)=true)) (false=true)))))))))))))):=by
 delta aba aci abb
 refine⟨rfl,trivial,fun _=>rfl,fun hm=>⟨⟨x,rfl,hx⟩,fun _=>rfl,fun hfar=>⟨rfl,fun h=>?_,fun _=>?_⟩⟩⟩
 all_goals have hl:=(Tu hm).1
 all_goals have hl2:=gA hl
 ·have h:=aa6 h;unfold ak ai at h;omega
 have hlen40:¬40<(ai x:Int):=VN hfar;obtain⟨few,sn⟩:=H3 hl;have hz:ak l=bD (ai l):=rfl;rw[hz,sn];refine⟨fun h=>⟨fun _=>rfl,fun h'=>by rw[h]at h';simp at h'⟩,fun h=>⟨rfl,few,fun h'=>by simp at h',fun _=>⟨fun h'=>by rw[h]at h';simp at h',fun _=>⟨rfl,rfl,rfl,few,fun h'=>by simp at h',fun _=>⟨fun _=>⟨rfl,⟨⟨hl,?_,x,rfl,hx,by omega⟩,rfl,rfl⟩,fun _ _=>by rw[hU];rfl⟩,fun h'=>by rw[hU]at h';simp at h'⟩⟩⟩⟩⟩
 simp only[Bool.or_eq_false_iff,decide_eq_false_iff_not]at h;unfold gQ;omega
theorem Xz (l:List Sx.Obj) (n:Int) (x:List iW) (hx:vX x):an Tryz.prog 6 [.sa 0,.it .i64 n,.sa 1] [.ro (.arr none 163 (.ob l)),.ro (.arr none 11 (ly x))] (oq (.bo true)) (fun _ _=>False):=
 bj (inl:=(fun f=>f==32||f==16||f==14||f==18)) (ann:=aQ) (ae LN (ae Xl (ae bC (ae Iy aq)))) (aB Th (aB vE (aB Pg aD))) (Vt l n x hx) (by kernel_rfl)
end Go.Proofs.YtlblcfaclmpekaaGreat
namespace Go.Sx
open Go.ChangeShapes Go.WideShapes
def Kd.ofR:Kd->Value->Prop
 | .b,v=>∃x,v= .bool x
 | .s,v=>∃x:ByteArray,v= .string x/\x.size<=maxLen
 | .i k,v=>∃n,v= .int k n/\bY k n
def sf:List Kd->List Value->Prop
 | [],[]=>True
 |k::ks,v::vs=>k.ofR v/\sf ks vs
 |_,_=>False
theorem sf.length:∀{ks:List Kd} {vs:List Value},sf ks vs->vs.length=ks.length
 | [],[],_=>rfl
 |_::_,_::_,h=>by simp[sf.length h.2]
 | [],_::_,h=>h.elim
 |_::_,[],h=>h.elim
theorem sf.split:∀{a b:List Kd} {vs:List Value},sf (a++b) vs->sf a (vs.take a.length)/\sf b (vs.drop a.length)
 | [],b,vs,h=>by simpa[sf]using h
 |k::a,b,[],h=>h.elim
 |k::a,b,v::vs,h=>by
  obtain⟨h1,h2⟩:=sf.split (a:=a) h.2;exact⟨by simpa[sf]using⟨h.1,h1⟩,by simpa using h2⟩
theorem sf.join:∀{a b:List Kd} {vs us:List Value},sf a vs->sf b us->sf (a++b) (vs++us)
 | [],_,[],_,_,h=>by simpa using h
 |k::a,_,v::vs,_,h,h'=>⟨h.1,sf.join h.2 h'⟩
 | [],_,_::_,_,h,_=>h.elim
 |_::_,_,[],_,h,_=>h.elim
theorem K8 {k:IntKind} {n:Int} (h:(Lit.int k n).wf=true):bY k n:=by
 cases k<;>simp[Lit.wf,IntKind.min,IntKind.max,IntKind.signed,IntKind.bits]at h<;>simp only[bY]<;>omega
theorem zu {α:Type} {l:List α} {c n:Nat} (h:(l.take c).length=n):l.take c=l.take n:=by
 rw[List.length_take]at h;rcases Nat.le_total c l.length with hc|hc
 ·rw[Nat.min_eq_left hc]at h;rw[h]
 ·rw[Nat.min_eq_right hc]at h;rw[List.take_of_length_le hc,List.take_of_length_le (by omega)]
section
variable {H:Type} {enc:TypeId×Value->H} {P:Program} {w:World} {base:Nat} {sp:Nat->Bool} {held:Bool}
theorem rr {t n:Nat} (h:oZ P t=some n):P.cellsOf t=n:=by
 unfold oZ at h;unfold Program.cellsOf;rw[h];rfl
theorem wT {m f:Nat} (ih:∀t ks,fw P f t=some ks->∀cs x,DataW.trod enc P w base sp held m t cs=some x->sf ks cs) (cs:List Value):∀(fs:List Field) (off:Nat) (ks:List Kd),ma (fw P f) off fs=some ks->
  (∀g∈fs,∃x,DataW.trod enc P w base sp held m g.type ((cs.drop g.offset).take (P.cellsOf g.type))=some x)->sf ks ((cs.drop off).take ks.length)
 | [],off,ks,h,_=>by
   simp only[ma,aa0]at h;subst h;simp[sf]
 |g::fs,off,ks,h,hx=>by
  simp only[ma]at h;split at h
  ·rename_i hc;simp only[aa2,bne_iff_ne,ne_eq,aa4]at hc;obtain⟨hn,ho⟩:=hc;cases hg:fw P f g.type with
   |none=>simp[hg]at h
   |some k1=>
    simp only[hg]at h;cases hr:ma (fw P f) (off+k1.length) fs with
    |none=>simp[hr]at h
    |some k2=>
     simp only[hr,Option.map_some,aa0]at h;subst h;obtain⟨x,hx1⟩:=hx g (by simp)
     have t1:=ih _ _ hg _ _ hx1;have hl:=t1.length;rw[zu hl,ho]at t1;have t2:=wT ih cs fs (off+k1.length) k2 hr fun g' hg'=>hx g' (by simp[hg'])
     have:(cs.drop off).take (k1++k2).length=(cs.drop off).take k1.length++(cs.drop (off+k1.length)).take k2.length:=by
      rw[List.length_append,List.take_add,List.drop_drop]
     rw[this];exact t1.join t2
  ·simp at h
theorem wJ:∀(f:Nat) (t:TypeId) (ks:List Kd),fw P f t=some ks->∀(fuel:Nat) (cs:List Value) (x:DataW H×List MemPlace),DataW.trod enc P w base sp held fuel t cs=some x->sf ks cs
 |0,_,_,h,_,_,_,_=>by simp[fw]at h
 |f+1,t,ks,h,fuel,cs,x,hx=>by
  simp only[fw]at h;split at h
  ·rename_i hu;simp only[aa0]at h;subst h;obtain⟨b,rfl,_⟩:=DataW.trod_bool hu hx;exact⟨⟨b,rfl⟩,trivial⟩
  ·rename_i hu;simp only[aa0]at h;subst h;obtain⟨b,rfl,_,hb⟩:=DataW.trod_string hu hx;exact⟨⟨b,rfl,hb⟩,trivial⟩
  ·rename_i k hu;simp only[aa0]at h;subst h;obtain⟨n,rfl,_,hw⟩:=DataW.trod_int hu hx;exact⟨⟨n,rfl,K8 hw⟩,trivial⟩
  ·rename_i fs hu;split at h
   ·simp at h
   ·split at h
    ·simp at h
    ·rename_i ks' hfs;split at h
     ·rename_i hs;have hs:=aa4.1 hs;simp only[aa0]at h;subst h;obtain⟨xs,n,rfl,_,hl,hxl,hall⟩:=DataW.trod_struct hu hx
      have:=wT (fun t ks h cs x hx=>wJ f t ks h n cs x hx) cs fs.toList 0 ks' hfs fun g hg=>by
       obtain⟨i,hi,hgi⟩:=List.getElem_of_mem hg;have hfi:fs[i]? =some g:=by rw[<-Array.getElem?_toList,List.getElem?_eq_getElem hi,hgi]
       have:=hall i g hfi;rw[List.getElem?_eq_getElem (by rw[hxl];simpa using hi)]at this
       exact⟨_,this⟩
      rw[rr hs]at hl;rw[List.drop_zero,<-hl,List.take_length]at this;exact this
     ·simp at h
  ·rename_i n e hu;split at h
   ·simp at h
   ·rename_i k1 he;split at h
    ·rename_i hs;simp only[aa2,aa4]at hs;simp only[aa0]at h;subst h;obtain⟨xs,m,rfl,_,hl,hxl,hall⟩:=DataW.trod_array hu hx;rw[rr hs.2]at hl;rw[rr hs.1]at hall
     have key:∀j,j<=n->sf (List.replicate j k1).flatten (cs.take (j*k1.length)):=by
      intro j;induction j with
      |zero=>intro _;simp[sf]
      |succ j ihj=>
       intro hj;have h1:=ihj (by omega)
       have h2:=hall j (by omega)
       rw[List.getElem?_eq_getElem (by omega)]at h2
       have h3:=wJ f e k1 he m _ _ h2;rw[List.replicate_succ',List.flatten_append,Nat.succ_mul,List.take_add];simpa using h1.join h3
     have:=key n (Nat.le_refl _);rwa [<-hl,List.take_length]at this
    ·simp at h
  ·simp at h
end
theorem C0 {k:Kd}:∀{n:Nat} {vs:List Value},sf (List.replicate n k) vs↔vs.length=n/\∀v∈vs,k.ofR v
 |0,[]=>by simp[sf]
 |0,_::_=>by simp[sf]
 |n+1,[]=>by simp[sf,List.replicate_succ]
 |n+1,v::vs=>by
  rw[List.replicate_succ];simp only[sf,C0 (n:=n),List.length_cons,List.mem_cons,forall_eq_or_imp];constructor
  ·rintro⟨a,b,c⟩;exact⟨by omega,a,c⟩
  ·rintro⟨a,b,c⟩;exact⟨b,by omega,c⟩
theorem A3:∀(m:Nat) (cs:List Value),sf (List.replicate (m*6) (.i .i64)) cs->∃ks:List Key,ks.length=m/\(∀k∈ks,k.wf)/\cs=ks.flatMap dZ
 |0,cs,h=>by
  rw[C0]at h;have:cs= []:=List.length_eq_zero_iff.1 (by omega)
  exact⟨[],rfl,by simp,by simp[this]⟩
 |m+1,cs,h=>by
  rw[show(m+1)*6=6+m*6 by omega,<-List.replicate_append_replicate]at h
  obtain⟨h1,h2⟩:=h.split;simp only[List.length_replicate]at h1 h2;obtain⟨ks,i1,i2,i3⟩:=A3 m _ h2;match cs,h1,i3 with
  |a::b::c::d::e::f::rest,h1,i3=>
   obtain⟨⟨n1,rfl,r1⟩,⟨n2,rfl,r2⟩,⟨n3,rfl,r3⟩,⟨n4,rfl,r4⟩,⟨n5,rfl,r5⟩,⟨n6,rfl,r6⟩,_⟩:=h1;refine⟨⟨n1,n2,n3,n4,n5,n6⟩::ks,by simp[i1],fun k hk=>?_,?_⟩
   ·rcases List.mem_cons.1 hk with rfl|hk
    ·exact⟨r1,r2,r3,r4,r5,r6⟩
    ·exact i2 k hk
   ·simp only[List.drop_succ_cons,List.drop_zero]at i3;simp[dZ,i64,i3]
  | [],h1,_=>exact h1.elim
  | [_],h1,_=>exact h1.2.elim
  | [_,_],h1,_=>exact h1.2.2.elim
  | [_,_,_],h1,_=>exact h1.2.2.2.elim
  | [_,_,_,_],h1,_=>exact h1.2.2.2.2.elim
  | [_,_,_,_,_],h1,_=>exact h1.2.2.2.2.2.elim
theorem GX {cs:List Value} (h:sf (List.replicate 96 (.i .i64)) cs):∃s:cL,s.wf/\cs=gg s:=by
 obtain⟨ks,h1,h2,h3⟩:=A3 16 cs h;refine⟨⟨ks.toArray,by simp[h1]⟩,fun i hi=>?_,?_⟩
 ·have:(cL.at ⟨ks.toArray,by simp[h1]⟩ i)=ks[i]'(by omega):=by simp[cL.at,h1,hi]
  rw[this];exact h2 _ (List.getElem_mem _)
 ·have hr:List.range ks.length=List.range 16:=by rw[h1]
  rw[h3,Go.Deep.flatMap_by_index ks void,hr];unfold gg;refine Go.Deep.flatMap_congr_range fun i hi=>?_
  simp[cL.at,aa7]
theorem FH {cs:List Value} (h:sf (List.replicate 64 (.i .u8)) cs):∃s:Bytes,cs=cZ s:=by
 rw[C0]at h;obtain⟨h1,h2⟩:=h
 have key:∀l:List Value,(∀v∈l,(Kd.i .u8).ofR v)->∃bs:List UInt8,l=bs.map fun b=>Value.int .u8 (b.toNat:Int):=by
  intro l;induction l with
  |nil=>intro _;exact⟨[],rfl⟩
  |cons v l ih=>
   intro hl;obtain⟨n,rfl,hn⟩:=hl v (by simp)
   obtain⟨bs,rfl⟩:=ih fun u hu=>hl u (by simp[hu])
   simp only[bY]at hn;refine⟨UInt8.ofNat n.toNat::bs,?_⟩
   have:(UInt8.ofNat n.toNat).toNat=n.toNat:=by
    rw[UInt8.toNat_ofNat'];omega
   simp only[List.map_cons,this,List.cons.injEq,Value.int.injEq,true_and,and_true];omega
 obtain⟨bs,rfl⟩:=key cs h2;simp only[List.length_map]at h1;refine⟨⟨bs.toArray,by simp[h1]⟩,?_⟩
 have hr:List.range bs.length=List.range 64:=by rw[h1]
 rw[Go.Deep.map_by_index bs 0,hr];unfold cZ;refine List.map_congr_left fun i hi=>?_
 simp[Bytes.at,aa7]
theorem Sl {cs:List Value} (h:sf QH cs):∃o:Obj,o.wf/\cs=eE o:=by
 have e:QH=List.replicate 3 (.i .i64)++(List.replicate 96 (.i .i64)++List.replicate 64 (.i .u8)):=rfl;rw[e]at h;obtain⟨h1,h2⟩:=h.split;obtain⟨h3,h4⟩:=h2.split;simp only[List.length_replicate]at h1 h3 h4;obtain⟨s,hs,e1⟩:=GX h3;obtain⟨b,e2⟩:=FH h4;match cs,h1,e1,e2 with
 |x::y::z::rest,h1,e1,e2=>
  obtain⟨⟨n1,rfl,r1⟩,⟨n2,rfl,r2⟩,⟨n3,rfl,r3⟩,_⟩:=h1;refine⟨⟨n1,n2,n3,s,b⟩,⟨r1,r2,r3,hs⟩,?_⟩;simp only[List.drop_succ_cons,List.drop_zero]at e1 e2;simp only[eE,i64,List.cons.injEq,true_and];rw[<-e1,<-e2,List.take_append_drop]
 | [],h1,_,_=>exact h1.elim
 | [_],h1,_,_=>exact h1.2.elim
 | [_,_],h1,_,_=>exact h1.2.2.elim
open Go.RowKit (Below)
section
variable {H:Type} {enc:TypeId×Value->H} {P:Program}
theorem Jh {f:Nat} {vs:List V} {res:List aK} (h:an P f vs res (oq (.bo true)) (fun _ _=>False)) {J:Env} {W:World} (hH:bq J (fun _ _=>False) res (known res) W (fun _=>False) W) (hok:fM (known res) vs):
  Calls P f (bB J vs).toArray W fun e W'=>e= .returned (.bool true)/\Below W.heap.size W W':=
 (VQ (h J _ W _ W hH hok)).mono fun e W' ⟨x,ρ',fps',res',g1,g2,g3,g4⟩=>by
  rcases g4 with⟨rfl,hK⟩|⟨_,hK⟩
  ·obtain⟨e1,_,_⟩:=dD hK ρ' (known res');refine⟨by rw[e1];rfl,g1.os,g1.tape,g1.output,g1.old,fun b hb=>g1.same b hb (fun h=>h)⟩
  ·exact hK.elim
theorem th {W W':World} (hB:Below W.heap.size W W') (hl:laidOutB P=true):∀{ts:List TypeId} {vs:List Value} {ds:List (DataW H)} {p:List MemPlace},
  (∀t∈ts,P.readableRec t=true/\t<P.types.size)->DataW.TrodAll enc P W 0 (fun _=>true) true ts vs ds p->(∀q∈p,q.block<W.heap.size)->∀sp:Nat->Bool,(∀q∈p,sp q.block=true)->DataW.TrodAll enc P W' 0 sp true ts vs ds p
 | [],vs,ds,p,_,h,_,sp,_=>by
   obtain⟨rfl,rfl,rfl⟩:=trodAll_nil h;exact trodAll_mk0
 |t::ts,vs,ds,p,hr,h,hlt,sp,hsp=>by
  obtain⟨v,vs',d,ds',p1,q1,rfl,rfl,rfl,⟨n,h1⟩,h2⟩:=trodAll_cons h;obtain⟨r1,r2⟩:=hr t (by simp)
  refine trodAll_cons_mk ⟨n,?_⟩ (th hB hl (fun t ht=>hr t (by simp[ht])) h2 (fun q hq=>hlt q (List.mem_append_right _ hq)) sp fun q hq=>hsp q (List.mem_append_right _ hq))
  exact DataW.trod_stays (kids_book hl r1) (book_sized r1) (fun h=>by cases h) ⟨r2,book_self t⟩ h1 (fun q hq=>hB.same (hlt q (List.mem_append_left _ hq))) fun q hq=>hsp q (List.mem_append_left _ hq)
theorem O6 {f:Func} {s:ChangeSpec} {apart fresh handsOn again:Bool} {W W':World} {args:Array Value} {ds gs:List (DataW H)} {before:List MemPlace} {tb:TypeId}
  (hW:DataW.Whole enc P f.params.toList s.vars apart W args.toList ds gs before) (hvars:s.vars= []) (hB:Below W.heap.size W W') (hl:laidOutB P=true)
  (hr:∀t∈f.params.toList,P.readableRec t=true/\t<P.types.size) (hrt:f.resultTypes= #[tb]) (htb:P.underlying tb=some .bool)
  (hs:(s.fn H (ds++gs)).results= [.lit (.bool true)]/\(s.fn H (ds++gs)).args=ds/\(s.fn H (ds++gs)).vars= []):s.post enc P f apart fresh handsOn again W args (.bool true) W':=by
 have hW':=hW;have hlt:=hW.lt;obtain⟨pa,pv,hA,hV,hps,hz,hn⟩:=hW;rw[hvars]at hV;obtain⟨rfl,rfl⟩:=trodVars_none hV;rw[List.append_nil]at hps;subst hps;have hag:∀sp:Nat->Bool,(∀q∈before,sp q.block=true)->DataW.TrodAll enc P W' 0 sp true f.params.toList args.toList ds before:=fun sp hsp=>th hB hl hr hA hlt sp hsp
 have hres:∀(b:Nat) (sp:Nat->Bool) (hd:Bool),DataW.TrodAll enc P W' b sp hd f.resultTypes.toList ((Value.bool true).resultList f.resultTypes.size) [.lit (.bool true)] []:=fun b sp hd=>by
  rw[hrt];exact trodAll_mk1 (RowKit.shut_bool htb true)
 have hok:∀(j:Nat) (t:TypeId) (r:Value),f.resultTypes[j]? =some t->((Value.bool true).resultList f.resultTypes.size)[j]? =some r->Value.okWide P W' .any 0 t r:=RowKit.ok_one hrt rfl (RowKit.okWide_bool_mk htb true);refine⟨ds,[],before,[],before,[],hW',by rw[hs.1];exact hres _ _ _,?_,?_,hB.frame _,fun _=>⟨hok,?_⟩⟩
 ·rw[hs.2.1];exact hag _ fun q hq=>by simpa using hlt q hq
 ·rw[hvars,hs.2.2];rfl
 ·refine⟨[.lit (.bool true)]++ds,[],before,⟨[]++before,[],trodAll_append (hag _ fun _ _=>rfl) (hres _ _ _),by rw[hvars];rfl,by simp,fun b off hp=>?_,hn⟩,fun p hp _=>hp⟩
  have:=hz b off hp;rw[hB.frozen (p:=⟨b,off,none⟩) (hlt _ hp)];exact this
def xr (w:World) (v:Value) (esz:Nat) (l:TL):Prop:=
 (∀j,j<l.len->ok (fun _=>False) (l.get j)/\cS (l.get j)=false/\fi (l.get j)=esz)/\l.len<=9223372036854775807/\
 ∃(sa:Option Addr) (cap:Nat),v= .slice sa l.len cap/\(0<l.len->∃a,sa=some a/\a.spot=none/\a.block<w.heap.size/\∀j,j<l.len->∀k,k<esz->w.cell? ⟨a.block,a.off+(j*esz+k),none⟩=(cells Env.zero (l.get j))[k]?)
def ZE:Value->Option Addr
 | .slice a _ _=>a
 |_=>none
def slN:Value->Nat
 | .slice _ n _=>n
 |_=>0
def slC:Value->Nat
 | .slice _ _ c=>c
 |_=>0
def tk (A:List (Value×Nat×TL)):Env:=
 {num:=fun _=>0,cap:=fun i=>slC (A.getD i (.slice none 0 0,0,.bo [])).1,adr:=fun i=>(ZE (A.getD i (.slice none 0 0,0,.bo [])).1).getD ⟨0,0,none⟩,sa:=fun i=>ZE (A.getD i (.slice none 0 0,0,.bo [])).1,
  sn:=fun i=>slN (A.getD i (.slice none 0 0,0,.bo [])).1,ob:=fun _ _=>0}
def mP:List (Value×Nat×TL)->List aK
 | []=> []
 |a::l=> .arr none a.2.1 a.2.2::mP l
theorem qh:∀(A:List (Value×Nat×TL)) (i:Nat),ay (mP A) i=match A[i]? with|some a=> .arr none a.2.1 a.2.2|none=> .yet
 | [],i=>by simp[mP,ay]
 |a::l,0=>by simp[mP,ay]
 |a::l,i+1=>by simp[mP,ay,qh l i]
theorem oW:∀A:List (Value×Nat×TL),(mP A).length=A.length
 | []=>rfl
 |a::l=>by simp[mP,oW l]
theorem Ob {A:List (Value×Nat×TL)} {W:World} (h:∀a∈A,xr W a.1 a.2.1 a.2.2):bq (tk A) (fun _ _=>False) (mP A) (known (mP A)) W (fun _=>False) W:=by
 refine⟨fun i hi=>hi,Nat.le_refl _,rfl,rfl,rfl,fun i hi=>?_,fun i b _ h=>h.elim,fun i j b _ _ _ h=>h.elim,fun i b _ h=>h.elim,fun _ _ _=>rfl⟩
 have hlt:=aO hi;rw[oW]at hlt;have hA:A[i]? =some A[i]:=List.getElem?_eq_getElem hlt;have hh:=h A[i] (List.getElem_mem hlt);generalize A[i]=a at hA hh
 rw[qh,hA];simp only;obtain⟨h1,h2,sa,cap,h3,h4⟩:=hh;have hd:A.getD i (.slice none 0 0,0,.bo [])=a:=by rw[aa7,hA];rfl
 have e1:(tk A).sa i=sa:=by show ZE (A.getD i _).1=sa;rw[hd,h3];rfl
 have e2:(tk A).sn i=a.2.2.len:=by show slN (A.getD i _).1=_;rw[hd,h3];rfl
 have e3:(tk A).adr i=sa.getD ⟨0,0,none⟩:=by show(ZE (A.getD i _).1).getD _=_;rw[hd,h3];rfl
 refine⟨h1,e2,h2,fun x hx=>?_,fun hl=>?_,fun hl=>?_,.inl ⟨rfl,fun hl=>?_,fun j hj k hk=>?_⟩⟩
 ·rw[e1]at hx;rw[e3,hx];rfl
 ·obtain⟨x,rfl,_⟩:=h4 hl;rw[e1];rfl
 ·obtain⟨x,rfl,g,_⟩:=h4 hl;rw[e3];exact g
 ·obtain⟨x,rfl,_,g,_⟩:=h4 hl;exact⟨fun h=>h,by rw[e3];exact g⟩
 ·obtain⟨x,rfl,_,_,g⟩:=h4 (by omega)
  have:=g j hj k hk;rw[e3];simp only[Option.getD_some];rw[this,dW (N:=fun _=>False) (J:=Env.zero) (ρ':=tk A) (fun _ h=>h.elim) _ (h1 j hj).1]
theorem Hn {A:List (Value×Nat×TL)} {W:World} (h:∀a∈A,xr W a.1 a.2.1 a.2.2) {i:Nat} {a:Value×Nat×TL} (hi:A[i]? =some a):den (tk A) (.sa i)=a.1/\known (mP A) i:=by
 obtain⟨h1,h2,sa,cap,h3,h4⟩:=h a (List.mem_of_getElem? hi);have hd:A.getD i (.slice none 0 0,0,.bo [])=a:=by rw[aa7,hi];rfl
 refine⟨?_,by unfold known;rw[qh,hi];simp⟩
 show Value.slice (ZE (A.getD i _).1) (slN (A.getD i _).1) (slC (A.getD i _).1)=a.1
 rw[hd,h3];rfl
theorem xt {α:Type} {p:Nat->α->Prop}:∀n:Nat,(∀i,i<n->∃y,p i y)->∃l:List α,l.length=n/\∀(i:Nat) (y:α),l[i]? =some y->p i y
 |0,_=>⟨[],rfl,by simp⟩
 |n+1,h=>by
  obtain⟨l,h1,h2⟩:=xt n fun i hi=>h i (by omega)
  obtain⟨y,hy⟩:=h n (by omega)
  refine⟨l++ [y],by simp[h1],fun i z hz=>?_⟩
  by_cases hi:i<n
  ·rw[List.getElem?_append_left (by omega)]at hz
   exact h2 i z hz
  ·rw[List.getElem?_append_right (by omega)]at hz
   have:i-l.length=0:=by
    have:=(List.getElem?_eq_some_iff.1 hz).1;simp at this;omega
   rw[this]at hz;simp at hz;subst hz;rw[show i=n by omega];exact hy
theorem FD {α:Type} {W:World} {t e esz:TypeId} {v:Value} {d:DataW H} {ps:List MemPlace} (ht:P.underlying t=some (.slice e)) (hc:P.cellsOf e=esz) (hz:0<esz)
  (hval:∃a0 ln cp,v= .slice a0 ln cp) (hd:DataW.Trod enc P W 0 (fun _=>true) true t v d ps) (mk:α->V) (wf:α->Prop) (tl:List α->TL) (d0:α) (htl:∀l:List α,(tl l).len=l.length/\∀i,(tl l).get i=mk (aj l i d0))
  (hmk:∀y,wf y->ok (fun _=>False) (mk y)/\cS (mk y)=false/\fi (mk y)=esz) (hop:∀n cs x,DataW.trod enc P W 0 (fun _=>true) true n e cs=some x->∃y,wf y/\cs=cells Env.zero (mk y)):
  ∃l:List α,(∀y∈l,wf y)/\xr W v esz (tl l):=by
 obtain⟨a0,ln,cp,rfl⟩:=hval;obtain⟨fuel,hf⟩:=hd;rcases Go.Deep.open_slice ht hf with⟨hcs,_⟩|⟨a,len,cap,m,n,D,Pl,hcs,_,hlc,hcm,hm,_,hx⟩
 ·simp[Value.cells]at hcs;obtain⟨rfl,rfl,rfl⟩:=hcs;obtain⟨e1,e2⟩:=htl [];have e1:(tl []).len=0:=e1;exact⟨[],by simp,fun j hj=>by omega,by omega,none,0,by rw[e1],fun h=>by omega⟩
 ·simp[Value.cells]at hcs;obtain⟨rfl,rfl,rfl⟩:=hcs;simp only[if_true]at hm;subst hm
  have hx':∀i,i<ln->∃y,wf y/\∀k,k<esz->W.cell? ((a.add (i*esz)).add k)=(cells Env.zero (mk y))[k]? :=fun i hi=>by
   obtain⟨cs,g1,g2⟩:=hx i (by omega)
   rw[hc]at g1;obtain⟨y,y1,y2⟩:=hop n cs _ g2;obtain⟨_,_,g3⟩:=World.cells?_some g1;exact⟨y,y1,fun k hk=>by rw[g3 k hk,y2]⟩
  obtain⟨l,l1,l2⟩:=xt ln hx';obtain⟨e1,e2⟩:=htl l
  have hget:∀j,j<ln->l[j]? =some (aj l j d0):=fun j hj=>by
   unfold aj;rw[aa7,List.getElem?_eq_getElem (by omega)];rfl
  have hcell0:∀j,j<ln->∀k,k<esz->W.cell? ((a.add (j*esz)).add k)=(cells Env.zero ((tl l).get j))[k]? :=fun j hj k hk=>by
   rw[e2];exact(l2 j _ (hget j hj)).2 k hk
  refine⟨l,fun y hy=>?_,fun j hj=>?_,?_,some a,m,by rw[e1,l1],fun hl=>?_⟩
  ·obtain⟨i,hi,rfl⟩:=List.getElem_of_mem hy;exact(l2 i _ (List.getElem?_eq_getElem hi)).1
  ·rw[e2];exact hmk _ (l2 j _ (hget j (by rw[e1,l1]at hj;exact hj))).1
  ·have:m<=9223372036854775807:=by simpa[maxLen]using hcm
   omega
  ·have hln:0<ln:=by rw[e1,l1]at hl;exact hl
   have h0:=hcell0 0 hln 0 hz
   have hsome:∃u,(cells Env.zero ((tl l).get 0))[0]? =some u:=by
    have hk:=hmk _ (l2 0 _ (hget 0 hln)).1;rw[<-e2]at hk;have:=bg Env.zero _ hk.1;exact⟨_,List.getElem?_eq_getElem (by rw[this,hk.2.2];exact hz)⟩
   obtain⟨u,hu⟩:=hsome;rw[hu]at h0;simp only[Nat.zero_mul,Addr.add,if_true]at h0
   have hspot:a.spot=none:=by
    unfold World.cell? at h0;split at h0
    ·split at h0
     ·simp at h0
     ·rename_i hs;simpa using hs
    ·simp at h0
   refine⟨a,rfl,hspot,World.block_lt_of_cell? W a h0,fun j hj k hk=>?_⟩
   have:=hcell0 j (by rw[e1,l1]at hj;exact hj) k hk
   rw[<-this];congr 1
   obtain⟨b,o,s⟩:=a;simp only at hspot;subst hspot;rw[add_lit,add_lit];show(⟨b,o+(j*esz+k),none⟩:Addr)=⟨b,o+j*esz+k,none⟩
   rw[Nat.add_assoc]
theorem JZ {α:Type} {W:World} {t e esz:TypeId} {base:Nat} {v:Value} {d:DataW H} {ps:List MemPlace} (ht:P.underlying t=some (.slice e)) (hc:P.cellsOf e=esz) (hz:0<esz)
  (hval:Value.okWide P W .any base t v) (hd:DataW.Trod enc P W 0 (fun _=>true) true t v d ps) (mk:α->V) (wf:α->Prop) (tl:List α->TL) (d0:α) (htl:∀l:List α,(tl l).len=l.length/\∀i,(tl l).get i=mk (aj l i d0))
  (hmk:∀y,wf y->ok (fun _=>False) (mk y)/\cS (mk y)=false/\fi (mk y)=esz) (hop:∀n cs x,DataW.trod enc P W 0 (fun _=>true) true n e cs=some x->∃y,wf y/\cs=cells Env.zero (mk y)):
  ∃l:List α,(∀y∈l,wf y)/\xr W v esz (tl l):=
 FD ht hc hz (okWide_slice ht hval) hd mk wf tl d0 htl hmk hop
end
end Go.Sx
namespace Go.Proofs.YtlblcfaclmpekaaGreat
open Go.Sx Go.ChangeShapes Go.WideShapes
theorem aaM:ownKnob Tryz.prog.godebug=none:=by kernel_rfl
theorem aaf:laidOutB Tryz.prog=true:=by kernel_rfl
section
variable {H:Type} {enc:TypeId×Value->H} {W:World} {base:Nat} {v:Value} {d:DataW H} {ps:List MemPlace}
end
def QI {α:Type} (ks:List Kd) (W:α->Prop) (m:α->V):Prop:=
 (∀cs,sf ks cs->∃x,W x/\cs=cells Env.zero (m x))/\∀x,W x->ok (fun _=>False) (m x)/\cS (m x)=false/\fi (m x)=ks.length
def SW {α:Type} (ks:List Kd) (W:α->Prop) (m:α->List V):Prop:=
 (∀cs,sf ks cs->∃x,W x/\cs=bp Env.zero (m x))/\∀x,W x->fM (fun _=>False) (m x)/\tg (m x)/\GC (m x)=ks.length
theorem DN:SW [] (fun _:Unit=>True) (fun _=> []):=by
 refine⟨fun cs h=>?_,fun _ _=>⟨trivial,trivial,rfl⟩⟩
 cases cs with
 |nil=>exact⟨(),trivial,rfl⟩
 |cons a l=>exact h.elim
theorem hJ {α β:Type} {ks1 ks2:List Kd} {W1:α->Prop} {W2:β->Prop} {m1:α->V} {m2:β->List V} (h1:QI ks1 W1 m1) (h2:SW ks2 W2 m2):SW (ks1++ks2) (fun x:α×β=>W1 x.1/\W2 x.2) (fun x=>m1 x.1::m2 x.2):=by
 refine⟨fun cs h=>?_,fun x hx=>?_⟩
 ·obtain⟨g1,g2⟩:=sf.split h;obtain⟨a,a1,a2⟩:=h1.1 _ g1;obtain⟨b,b1,b2⟩:=h2.1 _ g2;refine⟨(a,b),⟨a1,b1⟩,?_⟩;have e:bp Env.zero (m1 a::m2 b)=cells Env.zero (m1 a)++bp Env.zero (m2 b):=rfl;show cs=bp Env.zero (m1 a::m2 b)
  rw[e,<-a2,<-b2,List.take_append_drop]
 ·obtain⟨a1,a2,a3⟩:=h1.2 x.1 hx.1;obtain⟨b1,b2,b3⟩:=h2.2 x.2 hx.2;refine⟨⟨a1,b1⟩,⟨?_,b2⟩,?_⟩
  ·cases hm:m1 x.1<;>rw[hm]at a2<;>first|trivial|simp[cS]at a2
  ·show fi (m1 x.1)+GC (m2 x.2)=_
   rw[a3,b3,List.length_append]
theorem K7 {α:Type} {ks:List Kd} {W:α->Prop} {m:α->List V} (h:SW ks W m):QI ks W (fun x=> .ag (m x)):=
 ⟨fun cs hc=>by
  obtain⟨x,h1,h2⟩:=h.1 cs hc;exact⟨x,h1,by rw[h2];simp[cells,den,Value.cells]⟩,fun x hx=>⟨⟨(h.2 x hx).1,(h.2 x hx).2.1⟩,rfl,(h.2 x hx).2.2⟩⟩
theorem Su {α β:Type} {ks:List Kd} {W:α->Prop} {m:α->V} {m':β->V} (h:QI ks W m) (f:α->β) (g:β->α) (hm:∀y,m' y=m (g y)) (hfg:∀x,g (f x)=x):QI ks (fun y=>W (g y)) m':=by
 refine⟨fun cs hc=>?_,fun y hy=>?_⟩
 ·obtain⟨x,h1,h2⟩:=h.1 cs hc;exact⟨f x,by show W (g (f x));rw[hfg];exact h1,by rw[hm,hfg];exact h2⟩
 ·rw[hm];exact h.2 _ hy
theorem uI (k:IntKind):QI [.i k] (bY k) (V.it k):=by
 refine⟨fun cs h=>?_,fun x hx=>⟨hx,rfl,rfl⟩⟩
 match cs,h with
 | [],h=>exact h.elim
 | [a],h=>obtain⟨⟨n,rfl,hn⟩,_⟩:=h;exact⟨n,hn,rfl⟩
 |_::_::_,h=>exact h.2.elim
theorem YV:QI [.b] (fun _=>True) V.bo:=by
 refine⟨fun cs h=>?_,fun x hx=>⟨trivial,rfl,rfl⟩⟩
 match cs,h with
 | [],h=>exact h.elim
 | [a],h=>obtain⟨⟨n,rfl⟩,_⟩:=h;exact⟨n,trivial,rfl⟩
 |_::_::_,h=>exact h.2.elim
theorem YX:QI [.s] (fun s:ByteArray=>(s.size:Int)<=9223372036854775807) V.st:=by
 refine⟨fun cs h=>?_,fun x hx=>⟨trivial,rfl,rfl⟩⟩
 match cs,h with
 | [],h=>exact h.elim
 | [a],h=>
   obtain⟨⟨n,rfl,hn⟩,_⟩:=h;refine⟨n,?_,rfl⟩;simp only[maxLen]at hn;omega
 |_::_::_,h=>exact h.2.elim
theorem Xr:QI QH Obj.wf V.ob:=⟨fun cs h=>Sl h,fun x hx=>⟨hx,rfl,rfl⟩⟩
section
variable {H:Type} {enc:TypeId×Value->H} {W:World} {base:Nat} {v:Value} {d:DataW H} {ps:List MemPlace}
theorem Bn {α:Type} {t e:TypeId} {ks:List Kd} {wf:α->Prop} {m:α->V} (tl:List α->TL) (d0:α) (ht:Tryz.prog.underlying t=some (.slice e)) (hf:fw Tryz.prog 8 e=some ks) (hc:Tryz.prog.cellsOf e=ks.length) (hz:0<ks.length) (ho:QI ks wf m)
  (htl:∀l:List α,(tl l).len=l.length/\∀i,(tl l).get i=m (aj l i d0)) (hval:Value.okWide Tryz.prog W .any base t v) (hd:DataW.Trod enc Tryz.prog W 0 (fun _=>true) true t v d ps):
  ∃l:List α,(∀o∈l,wf o)/\xr W v ks.length (tl l):=
 JZ (esz:=ks.length) ht hc hz hval hd m wf tl d0 htl (fun y hy=>ho.2 y hy) fun n cs x hx=>ho.1 _ (wJ 8 _ _ hf n cs x hx)
theorem Ui {t:TypeId} {k:IntKind} (ht:Tryz.prog.underlying t=some (.int k)) (hval:Value.okWide Tryz.prog W .any base t v) (hd:DataW.Trod enc Tryz.prog W 0 (fun _=>true) true t v d ps):∃n:Int,bY k n/\v= .int k n:=by
 obtain⟨n,h1,_,_,h2⟩:=open_int ht hval hd;exact⟨n,K8 h2,h1⟩
end
theorem SC {α:Type} {l:List α} {p:α->Prop} (h:∀o∈l,p o) (d:α) (i:Nat) (hi:i<ai l):p (aj l i d):=by
 have hi:i<l.length:=hi;unfold aj;rw[aa7,List.getElem?_eq_getElem hi];exact h _ (List.getElem_mem hi)
theorem Tn {J:Env} {res:List aK} {W:World} (h:bq J (fun _ _=>False) res (known res) W (fun _=>False) W) (hk:∀i,i<res.length->known res i):bq J (fun _ _=>False) (nR res) (known (nR res)) W (fun _=>False) W:=by
 have hg:∀i,ay (nR res) i=if i<res.length then .ro (ay res i)else .yet:=fun i=>by
  rw[m8,m8];unfold nR;by_cases hi:i<res.length
  ·simp[aa7,hi]
  ·simp[aa7,hi]
 have hkn:∀i,known (nR res) i↔i<res.length:=fun i=>by
  unfold known;rw[hg];split<;>simp_all
 refine⟨fun i hi=>hi,Nat.le_refl _,rfl,rfl,rfl,fun i hi=>?_,fun i b _ h=>h.elim,fun i j b _ _ _ h=>h.elim,fun i b _ h=>h.elim,fun _ _ _=>rfl⟩
 have hlt:=(hkn i).1 hi;rw[hg,aa9 hlt];exact⟨fun _=>False,aK.oi _ (h.holds i (hk i hlt)) fun j hj=>(hkn j).2 (aO hj),fun b hb=>hb.elim⟩
theorem JF {A:List (Value×Nat×TL)}:∀i,i<(mP A).length->known (mP A) i:=fun i hi=>by
 rw[oW]at hi;unfold known;rw[qh,List.getElem?_eq_getElem hi];simp
theorem DH {l:List aK} {i:Nat} {r:aK} (h:ay l i= .ro r):known l i:=by
 unfold known;rw[h];simp
def kI:List Kd:= [.i .i64]
def aaL:List Kd:=kI++(kI++(kI++ []))
def kOp:List Kd:=kI++(kI++(kI++(kI++(kI++([.s]++(aaL++([.b]++(kI++ []))))))))
def aaX (x:iW):Prop:=bY .i64 x.kind/\bY .i64 x.proc/\bY .i64 x.reg/\bY .i64 x.mode/\bY .i64 x.code/\aw x.data/\(bY .i64 x.s0/\bY .i64 x.s1/\bY .i64 x.s2/\True)/\True/\bY .i64 x.val/\True
theorem aat:QI kOp aaX Ks:=
 Su (K7 (hJ (uI .i64) (hJ (uI .i64) (hJ (uI .i64) (hJ (uI .i64) (hJ (uI .i64) (hJ YX (hJ (K7 (hJ (uI .i64) (hJ (uI .i64) (hJ (uI .i64) DN)))) (hJ YV (hJ (uI .i64) DN))))))))))
  (fun x=>(⟨x.1,x.2.1,x.2.2.1,x.2.2.2.1,x.2.2.2.2.1,x.2.2.2.2.2.1,x.2.2.2.2.2.2.1.1,x.2.2.2.2.2.2.1.2.1,x.2.2.2.2.2.2.1.2.2.1,x.2.2.2.2.2.2.2.1,x.2.2.2.2.2.2.2.2.1⟩:iW))
  (fun y:iW=>(y.kind,y.proc,y.reg,y.mode,y.code,y.data,(y.s0,y.s1,y.s2,()),y.num,y.val,())) (fun _=>rfl) (fun _=>rfl)
end Go.Proofs.YtlblcfaclmpekaaGreat
