import Derived.Test.YtmfbohanboiklaaSpHe
import Derived.Test.YtmfbohanboiklaaSpHn
set_option linter.unusedSimpArgs false
set_option linter.unusedVariables false
set_option maxRecDepth 100000
namespace Go.Sx
theorem su {L:List Obj} (hL:dg L) (oid:Int):(ah L oid).length<=8192:=by
 have h5:∀x∈ny L oid,x.length=5:=fun x hx=>(pg hx).2.1
 have hp:=(fx h5 (sH L oid)).2;have:=hp.length_eq;unfold ah;rw[this];exact mO (fg hL).2 _
theorem Gl {L:List Obj} (hL:dg L) {oid:Int} {c:Cp}:c∈ah L oid↔GR L oid c:=by
 rw[<-Ku (fg hL).2];exact DH (fun x hx=>(pg hx).2.1) (sH L oid)
theorem iE (oid:Int) (ps:List Int):(bX oid ps).length=ps.length+1:=rfl
theorem vo {L:List Obj} (hL:dg L) {oid:Int} {ps:List Int} (hp:qv ps) (g:Int):eD (b8 L oid ps g)/\(b8 L oid ps g).length<=830000:=by
 unfold b8;refine⟨fun x hx=>?_,?_⟩
 ·obtain⟨n,_,h⟩:=List.mem_flatMap.1 hx;exact(wI hL n).1 x h
 ·have key:∀l:List Int,(l.flatMap (ah L)).length<=l.length*8192:=fun l=>by
   induction l with
   |nil=>simp
   |cons a l ih=>
    rw[List.flatMap_cons,List.length_append,List.length_cons];have:=su hL a;omega
  have:=key ((bX oid ps).take g.toNat)
  have h2:((bX oid ps).take g.toNat).length<=101:=by
   have:(bX oid ps).length=ps.length+1:=rfl;rw[List.length_take];unfold qv at hp;omega
  omega
theorem xy {L:List Obj} (hL:dg L) {oid:Int} {ps:List Int} (hp:qv ps) (g:Int):cm (b8 L oid ps g):=⟨(vo hL hp g).1,by have:=(vo (oid:=oid) hL hp g).2;omega⟩
theorem AM {L:List Obj} (hL:dg L) {oid:Int} {ps:List Int} (hp:qv ps) (g n:Int):oM (aa (b8 L oid ps g)) (aa (ah L n)) 40:=by
 have h1:=(vo (oid:=oid) hL hp g).2;have h2:=su hL n;unfold oM aa;have:maxLen≥1000000:=by decide
 omega
theorem xn {L:List Obj} {oid:Int} {ps:List Int} {g:Int} (h0:0<=g) (h1:g.toNat<(bX oid ps).length):dw (b8 L oid ps g) (ah L (ay (bX oid ps) g.toNat 0))=b8 L oid ps (g+1):=by
 unfold b8 dw;have e:(g+1).toNat=g.toNat+1:=by omega
 unfold ay;rw[e,List.take_add_one,List.flatMap_append,N8,List.getElem?_eq_getElem h1];simp
theorem zV {L:List Obj} {oid:Int} {ps:List Int} {g:Int} (h:((bX oid ps).length:Int)<=g):b8 L oid ps g=b8 L oid ps ((bX oid ps).length:Int):=by
 unfold b8;rw[List.take_of_length_le (by omega),List.take_of_length_le (by omega)]
theorem Jf {l:List Cp} {j:Nat} (h:j<l.length):cw l j=l[j]:=by
 unfold cw ay;rw[N8,List.getElem?_eq_getElem h];rfl
theorem wM {L M:List Obj} {oid:Int} {ps:List Int} {g:Int} (h0:0<=g) (h1:g.toNat<(ah M oid).length):ck L M oid ps (g+1)=if uJ L M oid ps (cw (ah M oid) g.toNat)=true then bg (ck L M oid ps g) (cw (ah M oid) g.toNat)else ck L M oid ps g:=by
 unfold ck bg;have e:(g+1).toNat=g.toNat+1:=by omega
 rw[e,List.take_add_one,List.filter_append,List.getElem?_eq_getElem h1,Jf h1];split<;>rename_i h<;>simp[List.filter_cons,h]
theorem zW {L M:List Obj} {oid:Int} {ps:List Int} {g:Int} (h:((ah M oid).length:Int)<=g):ck L M oid ps g=gI L M oid ps:=by
 unfold ck gI;rw[List.take_of_length_le (by omega)]
theorem vK {L M:List Obj} (hM:dg M) {oid:Int} {ps:List Int} {g:Int}:eC (aa (ck L M oid ps g)) 40:=by
 have h1:(ck L M oid ps g).length<=8192:=by
  unfold ck;refine Nat.le_trans (List.length_filter_le _ _) ?_;rw[List.length_take];have:=su hM oid;omega
 unfold eC aa;have:maxLen≥1000000:=by decide
 omega
theorem DN {L M:List Obj} (hM:dg M) {oid:Int} {ps:List Int}:cm (gI L M oid ps):=by
 obtain⟨a,b⟩:=wI hM oid;refine⟨fun x hx=>a x (List.mem_filter.1 hx).1,?_⟩
 unfold gI;exact Nat.le_trans (List.length_filter_le _ _) b
theorem xL {L:List Obj} {oid:Int} {ps:List Int}:kG L oid ps=true↔aC L oid=0/\∀p∈ps,aC L p=0:=by
 unfold kG bX;simp[List.all_eq_true]
theorem FV {L M:List Obj} {oid:Int} {ps:List Int} {c:Cp} (hL:aa L=aa M) (hk:au (bc c)=true) (hh:bk (bc c).kind=true->aC M (bc c).oid=0) {g:Int} (hg:(ps.length:Int)<=g):
  jJ L M oid ps (bc c) g=uJ L M oid ps c:=by
 unfold jJ uJ;rw[List.take_of_length_le (by omega)]
 have ha:(ps.any fun p=>decide (p=(bc c).oid))=jk ps (bc c).oid:=by
  unfold jk;rw[Bool.eq_iff_iff,List.any_eq_true];simp
 rw[ha];cases cZ (bc c) (b8 L oid ps ((bX oid ps).length:Int))with
 |true=>simp
 |false=>
  have hn:aN (bc c)=bk (bc c).kind:=by unfold aN;rw[hk,Bool.true_and]
  rw[hn];cases ho:bk (bc c).kind with
  |false=>
   have:(decide (5<=(bc c).kind)&&decide ((bc c).kind<=7))=false:=by
    unfold bk at ho;simp only[Bool.and_eq_false_iff,decide_eq_false_iff_not]at ho⊢;omega
   rw[this];rfl
  |true=>
   have h1:=hh ho
   have h2:aC L (bc c).oid=0:=by
    unfold aC at h1⊢;rw[hL];exact h1
   have e1:(bm M (bc c).oid)=ay M (bc c).oid.toNat free:=by unfold bm;rw[Oa h1]
   have e2:(bm L (bc c).oid)=ay L (bc c).oid.toNat free:=by unfold bm;rw[Oa h2]
   rw[e1,e2]
   have e3:(decide (5<=(bc c).kind)&&decide ((bc c).kind<=7))=(decide ((bc c).kind=6)||decide ((bc c).kind=7)||decide ((bc c).kind=5)):=by
    rw[Bool.eq_iff_iff];simp only[N3,Bool.or_eq_true,N4];omega
   rw[e3]
   have e4:(!decide ((ay L (bc c).oid.toNat free).count<(ay M (bc c).oid.toNat free).count))=decide ((ay M (bc c).oid.toNat free).count<=(ay L (bc c).oid.toNat free).count):=by
    rw[Bool.eq_iff_iff];simp only[Bool.not_eq_true',decide_eq_false_iff_not,N4];omega
   simp only[Bool.not_false,Bool.true_and,Bool.not_true,Bool.false_or,e4]
abbrev bU (l:List Cp) (g:Int):Key:=⟨aT l g.toNat 0,aT l g.toNat 1,aT l g.toNat 2,aT l g.toNat 3,aT l g.toNat 4,0⟩
theorem Al (l:List Cp) (g:Int):bU l g=bc (cw l g.toNat):=rfl
theorem D0 {M:List Obj} (hM:dg M) {oid g:Int} (h:g.toNat<(ah M oid).length):au (bU (ah M oid) g)=true/\(bk (bU (ah M oid) g).kind=true->aC M (bU (ah M oid) g).oid=0)/\ [(bU (ah M oid) g).kind,(bU (ah M oid) g).oid,(bU (ah M oid) g).count,(bU (ah M oid) g).call,(bU (ah M oid) g).rights]=cw (ah M oid) g.toNat:=by
 have hm:=Gl hM |>.1 (at_mem h).1
 rw[Al];obtain⟨a,b,c,d⟩:=DG _ hm;exact⟨a,Af _ hm,c⟩
theorem LL {L:List Obj} (hL:dg L) {n:Int} (h:¬aC L n=0):aC L n=4:=by
 obtain⟨l1,l2⟩:=fg hL;unfold aC aa at h⊢;rw[N9 (by omega)]at h⊢
 split at h
 ·rename_i h2;rw[Oa h2]
 ·exact absurd rfl h
theorem Ic {L M:List Obj} (h:aa L=aa M) (n:Int):aC L n=aC M n:=by unfold aC;rw[h]
theorem FA {L M:List Obj} {oid:Int} {ps:List Int} {k:Key} {g:Int} (h0:0<=g) (h1:g.toNat<ps.length):jJ L M oid ps k (g+1)=(jJ L M oid ps k g&& !(decide (5<=k.kind)&&decide (k.kind<=7)&&decide (ay ps g.toNat 0=k.oid))):=by
 have hp:ay ps g.toNat 0=ps[g.toNat]'h1:=by
  unfold ay;rw[N8,List.getElem?_eq_getElem h1];rfl
 unfold jJ;have e:(g+1).toNat=g.toNat+1:=by omega
 rw[hp,e,List.take_add_one,List.getElem?_eq_getElem h1,List.any_append];simp only[Option.toList,List.any_cons,List.any_nil,Bool.or_false];generalize (List.take g.toNat ps).any (fun p=>decide (p=k.oid))=a
 generalize decide (ps[g.toNat]=k.oid)=b
 generalize (decide (5<=k.kind)&&decide (k.kind<=7))=d
 generalize (!cZ k (b8 L oid ps ((bX oid ps).length:Int))&& !(bk k.kind&&decide ((ay L k.oid.toNat free).count<(ay M k.oid.toNat free).count)))=f
 cases a<;>cases b<;>cases d<;>cases f<;>rfl
theorem DD {L M:List Obj} {oid:Int} {ps:List Int} {g:Int}:uJ L M oid ps (cw (ah M oid) g.toNat)=(!cZ (bU (ah M oid) g) (b8 L oid ps ((bX oid ps).length:Int))&&(!aN (bU (ah M oid) g)||(decide ((bm M (bU (ah M oid) g).oid).count<=(bm L (bU (ah M oid) g).oid).count)&& !((decide ((bU (ah M oid) g).kind=6)||decide ((bU (ah M oid) g).kind=7)||decide ((bU (ah M oid) g).kind=5))&&jk ps (bU (ah M oid) g).oid)))):=rfl
theorem DZ {L:List Obj} {ps:List Int} {g:Int} (h0:0<=g) (h1:g.toNat<ps.length):(dF L ps g&&decide (0<=ay ps g.toNat 0)&&decide (ay ps g.toNat 0<aG (aa L)))=dF L ps (g+1):=by
 unfold dF ay;have e:(g+1).toNat=g.toNat+1:=by omega
 rw[e,List.take_add_one,N8,List.getElem?_eq_getElem h1,List.all_append];simp only[Option.toList,List.all_cons,List.all_nil,Bool.and_true,Option.getD_some,Bool.and_assoc];rfl
theorem CD {L:List Obj} (hL:dg L) {ps:List Int} {g n:Int} (hg:(ps.length:Int)<=g) (hn:0<=n/\n<(L.length:Int)):kG L n ps=dF L ps g:=by
 have key:∀p:Int,aC L p=0↔0<=p/\p<(L.length:Int):=fun p=>by
  obtain⟨l1,l2⟩:=fg hL;unfold aC aa;rw[N9 (by omega)]
  split<;>omega
 rw[Bool.eq_iff_iff,xL];unfold dF;rw[List.take_of_length_le (by omega),List.all_eq_true]
 simp only[key,N3,N4];exact⟨fun h=>h.2,fun h=>⟨hn,h⟩⟩
theorem B5 {a b:Key} (ha:au a=true) (hb:au b=true):decide (cG .andNot .i64 b.rights a.rights=0)=decide (gE a.rights b.rights=a.rights):=by
 have f8:∀{a:Int},(0<=a/\a<=7)->∃x:Fin 8,a=(x.val:Int):=fun{a} h=>⟨⟨a.toNat,by omega⟩,(Int.toNat_of_nonneg h.1).symm⟩
 have key:∀x y:Fin 8,decide (cG .andNot .i64 (y.val:Int) (x.val:Int)=0)=decide (gE (x.val:Int) (y.val:Int)=(x.val:Int)):=by decide+kernel
 obtain⟨x,hx⟩:=f8 (xw ha);obtain⟨y,hy⟩:=f8 (xw hb);rw[hx,hy];exact key x y
end Go.Sx
