import Derived.Test.YtmfbohanboiklaaGreatDoorSxF
import Derived.OpenShut
import Derived.Deep.Slices
import Derived.ChangeArms
import Derived.ChangeSame
import Derived.ChangeBook
import Derived.RowKit
import Derived.ProofKit
import Derived.ChangeMaps5
set_option linter.unusedSimpArgs false
set_option linter.unusedVariables false
namespace Go.Sx
open Go.ChangeShapes Go.WideShapes
def Kd.L6:Kd->Value->Prop
 | .b,v=>∃x,v= .bool x
 | .s,v=>∃x:ByteArray,v= .string x/\x.size<=maxLen
 | .i k,v=>∃n,v= .int k n/\bU k n
def p8:List Kd->List Value->Prop
 | [],[]=>True
 |k::ks,v::vs=>k.L6 v/\p8 ks vs
 |_,_=>False
theorem p8.length:∀{ks:List Kd} {vs:List Value},p8 ks vs->vs.length=ks.length
 | [],[],_=>rfl
 |_::_,_::_,h=>by simp[p8.length h.2]
 | [],_::_,h=>h.elim
 |_::_,[],h=>h.elim
theorem p8.split:∀{a b:List Kd} {vs:List Value},p8 (a++b) vs->p8 a (vs.take a.length)/\p8 b (vs.drop a.length)
 | [],b,vs,h=>by simpa[p8]using h
 |k::a,b,[],h=>h.elim
 |k::a,b,v::vs,h=>by
  obtain⟨h1,h2⟩:=p8.split (a:=a) h.2;exact⟨by simpa[p8]using⟨h.1,h1⟩,by simpa using h2⟩
theorem p8.join:∀{a b:List Kd} {vs us:List Value},p8 a vs->p8 b us->p8 (a++b) (vs++us)
 | [],_,[],_,_,h=>by simpa using h
 |k::a,_,v::vs,_,h,h'=>⟨h.1,p8.join h.2 h'⟩
 | [],_,_::_,_,h,_=>h.elim
 |_::_,_,[],_,h,_=>h.elim
theorem I6{k:IntKind}{n:Int}(h:(Lit.int k n).wf=true):bU k n:=by
 cases k<;>simp[Lit.wf,IntKind.min,IntKind.max,IntKind.signed,IntKind.bits]at h<;>simp only[bU]<;>omega
theorem qU{α:Type}{l:List α}{c n:Nat}(h:(l.take c).length=n):l.take c=l.take n:=by
 rw[List.length_take]at h;rcases Nat.le_total c l.length with hc|hc
 ·rw[Nat.min_eq_left hc]at h;rw[h]
 ·rw[Nat.min_eq_right hc]at h;rw[List.take_of_length_le hc,List.take_of_length_le (by omega)]
section
variable {H:Type} {enc:TypeId×Value->H} {P:Program} {w:World} {base:Nat} {sp:Nat->Bool} {held:Bool}
theorem kC{t n:Nat}(h:iz P t=some n):P.cellsOf t=n:=by
 unfold iz at h;unfold Program.cellsOf;rw[h];rfl
theorem pU{m f:Nat}(ih:∀t ks,flatK P f t=some ks->∀cs x,DataW.trod enc P w base sp held m t cs=some x->p8 ks cs)(cs:List Value):∀(fs:List Field) (off:Nat) (ks:List Kd),fQ (flatK P f) off fs=some ks->
  (∀g∈fs,∃x,DataW.trod enc P w base sp held m g.type ((cs.drop g.offset).take (P.cellsOf g.type))=some x)->p8 ks ((cs.drop off).take ks.length)
 | [],off,ks,h,_=>by
   simp only[fQ,aa]at h;subst h;simp[p8]
 |g::fs,off,ks,h,hx=>by
  simp only[fQ]at h;split at h
  ·rename_i hc;simp only[ah,bne_iff_ne,ne_eq,aj]at hc;obtain⟨hn,ho⟩:=hc;cases hg:flatK P f g.type with
   |none=>simp[hg]at h
   |some k1=>
    simp only[hg]at h;cases hr:fQ (flatK P f) (off+k1.length) fs with
    |none=>simp[hr]at h
    |some k2=>
     simp only[hr,Option.map_some,aa]at h;subst h;obtain⟨x,hx1⟩:=hx g (by simp)
     have t1:=ih _ _ hg _ _ hx1;have hl:=t1.length;rw[qU hl,ho]at t1;have t2:=pU ih cs fs (off+k1.length) k2 hr fun g' hg'=>hx g' (by simp[hg'])
     have:(cs.drop off).take (k1++k2).length=(cs.drop off).take k1.length++(cs.drop (off+k1.length)).take k2.length:=by
      rw[List.length_append,List.take_add,List.drop_drop]
     rw[this];exact t1.join t2
  ·simp at h
theorem lW:∀(f:Nat) (t:TypeId) (ks:List Kd),flatK P f t=some ks->∀(fuel:Nat) (cs:List Value) (x:DataW H×List MemPlace),DataW.trod enc P w base sp held fuel t cs=some x->p8 ks cs
 |0,_,_,h,_,_,_,_=>by simp[flatK]at h
 |f+1,t,ks,h,fuel,cs,x,hx=>by
  simp only[flatK]at h;split at h
  ·rename_i hu;simp only[aa]at h;subst h;obtain⟨b,rfl,_⟩:=DataW.trod_bool hu hx;exact⟨⟨b,rfl⟩,trivial⟩
  ·rename_i hu;simp only[aa]at h;subst h;obtain⟨b,rfl,_,hb⟩:=DataW.trod_string hu hx;exact⟨⟨b,rfl,hb⟩,trivial⟩
  ·rename_i k hu;simp only[aa]at h;subst h;obtain⟨n,rfl,_,hw⟩:=DataW.trod_int hu hx;exact⟨⟨n,rfl,I6 hw⟩,trivial⟩
  ·rename_i fs hu;split at h
   ·simp at h
   ·split at h
    ·simp at h
    ·rename_i ks' hfs;split at h
     ·rename_i hs;have hs:=aj.1 hs;simp only[aa]at h;subst h;obtain⟨xs,n,rfl,_,hl,hxl,hall⟩:=DataW.trod_struct hu hx
      have:=pU (fun t ks h cs x hx=>lW f t ks h n cs x hx) cs fs.toList 0 ks' hfs fun g hg=>by
       obtain⟨i,hi,hgi⟩:=List.getElem_of_mem hg;have hfi:fs[i]? =some g:=by rw[<-Array.getElem?_toList,List.getElem?_eq_getElem hi,hgi]
       have:=hall i g hfi;rw[List.getElem?_eq_getElem (by rw[hxl];simpa using hi)]at this
       exact⟨_,this⟩
      rw[kC hs]at hl;rw[List.drop_zero,<-hl,List.take_length]at this;exact this
     ·simp at h
  ·rename_i n e hu;split at h
   ·simp at h
   ·rename_i k1 he;split at h
    ·rename_i hs;simp only[ah,aj]at hs;simp only[aa]at h;subst h;obtain⟨xs,m,rfl,_,hl,hxl,hall⟩:=DataW.trod_array hu hx;rw[kC hs.2]at hl;rw[kC hs.1]at hall
     have key:∀j,j<=n->p8 (List.replicate j k1).flatten (cs.take (j*k1.length)):=by
      intro j;induction j with
      |zero=>intro _;simp[p8]
      |succ j ihj=>
       intro hj;have h1:=ihj (by omega)
       have h2:=hall j (by omega)
       rw[List.getElem?_eq_getElem (by omega)]at h2
       have h3:=lW f e k1 he m _ _ h2;rw[List.replicate_succ',List.flatten_append,Nat.succ_mul,List.take_add];simpa using h1.join h3
     have:=key n (Nat.le_refl _);rwa [<-hl,List.take_length]at this
    ·simp at h
  ·simp at h
end
end Go.Sx
namespace Go.Sx
open Go.RowKit (Below)
open Go.ChangeShapes Go.WideShapes
section
variable {H:Type} {enc:TypeId×Value->H} {P:Program}
theorem AB[Fen]{f:Nat}{vs:List V}{res:List aI}(h:aJ P f vs res (pz (.bo true)) (fun _ _=>False)){J:Env}{W:World}(hH:aQ J (fun _ _=>False) res (known res) W (fun _=>False) W)(hok:cm (known res) vs):
  Calls P f (aV J vs).toArray W fun e W'=>e= .returned (.bool true)/\Below W.heap.size W W':=
 (Cr (h J _ W _ W hH hok)).mono fun e W' ⟨x,ρ',fps',res',g1,g2,g3,g4⟩=>by
  rcases g4 with⟨rfl,hK⟩|⟨_,hK⟩
  ·obtain⟨e1,_,_⟩:=dn hK ρ' (known res');refine⟨by rw[e1];rfl,g1.os,g1.tape,g1.output,g1.old,fun b hb=>g1.same b hb (fun h=>h)⟩
  ·exact hK.elim
theorem mE{W W':World}(hB:Below W.heap.size W W')(hl:laidOutB P=true):∀{ts:List TypeId} {vs:List Value} {ds:List (DataW H)} {p:List MemPlace},
  (∀t∈ts,P.readableRec t=true/\t<P.types.size)->DataW.TrodAll enc P W 0 (fun _=>true) true ts vs ds p->(∀q∈p,q.block<W.heap.size)->∀sp:Nat->Bool,(∀q∈p,sp q.block=true)->DataW.TrodAll enc P W' 0 sp true ts vs ds p
 | [],vs,ds,p,_,h,_,sp,_=>by
   obtain⟨rfl,rfl,rfl⟩:=trodAll_nil h;exact trodAll_mk0
 |t::ts,vs,ds,p,hr,h,hlt,sp,hsp=>by
  obtain⟨v,vs',d,ds',p1,q1,rfl,rfl,rfl,⟨n,h1⟩,h2⟩:=trodAll_cons h;obtain⟨r1,r2⟩:=hr t (by simp)
  refine trodAll_cons_mk ⟨n,?_⟩ (mE hB hl (fun t ht=>hr t (by simp[ht])) h2 (fun q hq=>hlt q (List.mem_append_right _ hq)) sp fun q hq=>hsp q (List.mem_append_right _ hq))
  exact DataW.trod_stays (kids_book hl r1) (book_sized r1) (fun h=>by cases h) ⟨r2,book_self t⟩ h1 (fun q hq=>hB.same (hlt q (List.mem_append_left _ hq))) fun q hq=>hsp q (List.mem_append_left _ hq)
theorem Cg{f:Func}{s:ChangeSpec}{apart fresh handsOn again:Bool}{W W':World}{args:Array Value}{ds gs:List (DataW H)}{before:List MemPlace}{tb:TypeId}
  (hW:DataW.Whole enc P f.params.toList s.vars apart W args.toList ds gs before) (hvars:s.vars= []) (hB:Below W.heap.size W W') (hl:laidOutB P=true)
  (hr:∀t∈f.params.toList,P.readableRec t=true/\t<P.types.size) (hrt:f.resultTypes= #[tb]) (htb:P.underlying tb=some .bool)
  (hs:(s.fn H (ds++gs)).results= [.lit (.bool true)]/\(s.fn H (ds++gs)).args=ds/\(s.fn H (ds++gs)).vars= []):s.post enc P f apart fresh handsOn again W args (.bool true) W':=by
 have hW':=hW;have hlt:=hW.lt;obtain⟨pa,pv,hA,hV,hps,hz,hn⟩:=hW;rw[hvars]at hV;obtain⟨rfl,rfl⟩:=trodVars_none hV;rw[List.append_nil]at hps;subst hps;have hag:∀sp:Nat->Bool,(∀q∈before,sp q.block=true)->DataW.TrodAll enc P W' 0 sp true f.params.toList args.toList ds before:=fun sp hsp=>mE hB hl hr hA hlt sp hsp
 have hres:∀(b:Nat) (sp:Nat->Bool) (hd:Bool),DataW.TrodAll enc P W' b sp hd f.resultTypes.toList ((Value.bool true).resultList f.resultTypes.size) [.lit (.bool true)] []:=fun b sp hd=>by
  rw[hrt];exact trodAll_mk1 (RowKit.shut_bool htb true)
 have hok:∀(j:Nat) (t:TypeId) (r:Value),f.resultTypes[j]? =some t->((Value.bool true).resultList f.resultTypes.size)[j]? =some r->Value.okWide P W' .any 0 t r:=RowKit.ok_one hrt rfl (RowKit.okWide_bool_mk htb true);refine⟨ds,[],before,[],before,[],hW',by rw[hs.1];exact hres _ _ _,?_,?_,hB.frame _,fun _=>⟨hok,?_⟩⟩
 ·rw[hs.2.1];exact hag _ fun q hq=>by simpa using hlt q hq
 ·rw[hvars,hs.2.2];rfl
 ·refine⟨[.lit (.bool true)]++ds,[],before,⟨[]++before,[],trodAll_append (hag _ fun _ _=>rfl) (hres _ _ _),by rw[hvars];rfl,by simp,fun b off hp=>?_,hn⟩,fun p hp _=>hp⟩
  have:=hz b off hp;rw[hB.frozen (p:=⟨b,off,none⟩) (hlt _ hp)];exact this
def sw(w:World)(v:Value)(esz:Nat)(l:TL):Prop:=
 (∀j,j<l.len->ok (fun _=>False) (l.get j)/\bp (l.get j)=false/\bP (l.get j)=esz)/\l.len<=9223372036854775807/\
 ∃(sa:Option Addr) (cap:Nat),v= .slice sa l.len cap/\(0<l.len->∃a,sa=some a/\a.spot=none/\a.block<w.heap.size/\∀j,j<l.len->∀k,k<esz->w.cell? ⟨a.block,a.off+(j*esz+k),none⟩=(cells Env.zero (l.get j))[k]?)
def Kz:Value->Option Addr
 | .slice a _ _=>a
 |_=>none
def K2:Value->Nat
 | .slice _ n _=>n
 |_=>0
def LZ:Value->Nat
 | .slice _ _ c=>c
 |_=>0
def mS(A:List (Value×Nat×TL)):Env:=
 {num:=fun _=>0,cap:=fun i=>LZ (A.getD i (.slice none 0 0,0,.bo [])).1,adr:=fun i=>(Kz (A.getD i (.slice none 0 0,0,.bo [])).1).getD ⟨0,0,none⟩,sa:=fun i=>Kz (A.getD i (.slice none 0 0,0,.bo [])).1,
  sn:=fun i=>K2 (A.getD i (.slice none 0 0,0,.bo [])).1,ob:=fun _ _=>0}
def gp:List (Value×Nat×TL)->List aI
 | []=> []
 |a::l=> .arr none a.2.1 a.2.2::gp l
theorem jP:∀(A:List (Value×Nat×TL)) (i:Nat),aH (gp A) i=match A[i]? with|some a=> .arr none a.2.1 a.2.2|none=> .yet
 | [],i=>by simp[gp,aH]
 |a::l,0=>by simp[gp,aH]
 |a::l,i+1=>by simp[gp,aH,jP l i]
theorem je:∀A:List (Value×Nat×TL),(gp A).length=A.length
 | []=>rfl
 |a::l=>by simp[gp,je l]
theorem Di{A:List (Value×Nat×TL)}{W:World}(h:∀a∈A,sw W a.1 a.2.1 a.2.2):aQ (mS A) (fun _ _=>False) (gp A) (known (gp A)) W (fun _=>False) W:=by
 refine⟨fun i hi=>hi,Nat.le_refl _,rfl,rfl,rfl,fun i hi=>?_,fun i b _ h=>h.elim,fun i j b _ _ _ h=>h.elim,fun i b _ h=>h.elim,fun _ _ _=>rfl⟩
 have hlt:=aK hi;rw[je]at hlt;have hA:A[i]? =some A[i]:=List.getElem?_eq_getElem hlt;have hh:=h A[i] (List.getElem_mem hlt);generalize A[i]=a at hA hh
 rw[jP,hA];simp only;obtain⟨h1,h2,sa,cap,h3,h4⟩:=hh;have hd:A.getD i (.slice none 0 0,0,.bo [])=a:=by rw[aq,hA];rfl
 have e1:(mS A).sa i=sa:=by show Kz (A.getD i _).1=sa;rw[hd,h3];rfl
 have e2:(mS A).sn i=a.2.2.len:=by show K2 (A.getD i _).1=_;rw[hd,h3];rfl
 have e3:(mS A).adr i=sa.getD ⟨0,0,none⟩:=by show(Kz (A.getD i _).1).getD _=_;rw[hd,h3];rfl
 refine⟨h1,e2,h2,fun x hx=>?_,fun hl=>?_,fun hl=>?_,.inl ⟨rfl,fun hl=>?_,fun j hj k hk=>?_⟩⟩
 ·rw[e1]at hx;rw[e3,hx];rfl
 ·obtain⟨x,rfl,_⟩:=h4 hl;rw[e1];rfl
 ·obtain⟨x,rfl,g,_⟩:=h4 hl;rw[e3];exact g
 ·obtain⟨x,rfl,_,g,_⟩:=h4 hl;exact⟨fun h=>h,by rw[e3];exact g⟩
 ·obtain⟨x,rfl,_,_,g⟩:=h4 (by omega)
  have:=g j hj k hk;rw[e3];simp only[Option.getD_some];rw[this,bw (N:=fun _=>False) (J:=Env.zero) (ρ':=mS A) (fun _ h=>h.elim) _ (h1 j hj).1]
theorem Fk{A:List (Value×Nat×TL)}{W:World}(h:∀a∈A,sw W a.1 a.2.1 a.2.2){i:Nat}{a:Value×Nat×TL}(hi:A[i]? =some a):den (mS A) (.sa i)=a.1/\known (gp A) i:=by
 obtain⟨h1,h2,sa,cap,h3,h4⟩:=h a (List.mem_of_getElem? hi);have hd:A.getD i (.slice none 0 0,0,.bo [])=a:=by rw[aq,hi];rfl
 refine⟨?_,by unfold known;rw[jP,hi];simp⟩
 show Value.slice (Kz (A.getD i _).1) (K2 (A.getD i _).1) (LZ (A.getD i _).1)=a.1
 rw[hd,h3];rfl
theorem pw{α:Type}{p:Nat->α->Prop}:∀n:Nat,(∀i,i<n->∃y,p i y)->∃l:List α,l.length=n/\∀(i:Nat) (y:α),l[i]? =some y->p i y
 |0,_=>⟨[],rfl,by simp⟩
 |n+1,h=>by
  obtain⟨l,h1,h2⟩:=pw n fun i hi=>h i (by omega)
  obtain⟨y,hy⟩:=h n (by omega)
  refine⟨l++ [y],by simp[h1],fun i z hz=>?_⟩
  by_cases hi:i<n
  ·rw[List.getElem?_append_left (by omega)]at hz
   exact h2 i z hz
  ·rw[List.getElem?_append_right (by omega)]at hz
   have:i-l.length=0:=by
    have:=(List.getElem?_eq_some_iff.1 hz).1;simp at this;omega
   rw[this]at hz;simp at hz;subst hz;rw[show i=n by omega];exact hy
theorem yb{α:Type}{W:World}{t e esz:TypeId}{v:Value}{d:DataW H}{ps:List MemPlace}(ht:P.underlying t=some (.slice e))(hc:P.cellsOf e=esz)(hz:0<esz)
  (hval:∃a0 ln cp,v= .slice a0 ln cp) (hd:DataW.Trod enc P W 0 (fun _=>true) true t v d ps) (mk:α->V) (wf:α->Prop) (tl:List α->TL) (d0:α) (htl:∀l:List α,(tl l).len=l.length/\∀i,(tl l).get i=mk (aX l i d0))
  (hmk:∀y,wf y->ok (fun _=>False) (mk y)/\bp (mk y)=false/\bP (mk y)=esz) (hop:∀n cs x,DataW.trod enc P W 0 (fun _=>true) true n e cs=some x->∃y,wf y/\cs=cells Env.zero (mk y)):
  ∃l:List α,(∀y∈l,wf y)/\sw W v esz (tl l):=by
 obtain⟨a0,ln,cp,rfl⟩:=hval;obtain⟨fuel,hf⟩:=hd;rcases Go.Deep.open_slice ht hf with⟨hcs,_⟩|⟨a,len,cap,m,n,D,Pl,hcs,_,hlc,hcm,hm,_,hx⟩
 ·simp[Value.cells]at hcs;obtain⟨rfl,rfl,rfl⟩:=hcs;obtain⟨e1,e2⟩:=htl [];have e1:(tl []).len=0:=e1;exact⟨[],by simp,fun j hj=>by omega,by omega,none,0,by rw[e1],fun h=>by omega⟩
 ·simp[Value.cells]at hcs;obtain⟨rfl,rfl,rfl⟩:=hcs;simp only[if_true]at hm;subst hm
  have hx':∀i,i<ln->∃y,wf y/\∀k,k<esz->W.cell? ((a.add (i*esz)).add k)=(cells Env.zero (mk y))[k]? :=fun i hi=>by
   obtain⟨cs,g1,g2⟩:=hx i (by omega)
   rw[hc]at g1;obtain⟨y,y1,y2⟩:=hop n cs _ g2;obtain⟨_,_,g3⟩:=World.cells?_some g1;exact⟨y,y1,fun k hk=>by rw[g3 k hk,y2]⟩
  obtain⟨l,l1,l2⟩:=pw ln hx';obtain⟨e1,e2⟩:=htl l
  have hget:∀j,j<ln->l[j]? =some (aX l j d0):=fun j hj=>by
   unfold aX;rw[aq,List.getElem?_eq_getElem (by omega)];rfl
  have hcell0:∀j,j<ln->∀k,k<esz->W.cell? ((a.add (j*esz)).add k)=(cells Env.zero ((tl l).get j))[k]? :=fun j hj k hk=>by
   rw[e2];exact(l2 j _ (hget j hj)).2 k hk
  refine⟨l,fun y hy=>?_,fun j hj=>?_,?_,some a,m,by rw[e1,l1],fun hl=>?_⟩
  ·obtain⟨i,hi,rfl⟩:=List.getElem_of_mem hy;exact(l2 i _ (List.getElem?_eq_getElem hi)).1
  ·rw[e2];exact hmk _ (l2 j _ (hget j (by rw[e1,l1]at hj;exact hj))).1
  ·have:m<=9223372036854775807:=by simpa[maxLen]using hcm
   omega
  ·have hln:0<ln:=by rw[e1,l1]at hl;exact hl
   have h0:=hcell0 0 hln 0 hz
   have hsome:∃u,(cells Env.zero ((tl l).get 0))[0]? =some u:=by
    have hk:=hmk _ (l2 0 _ (hget 0 hln)).1;rw[<-e2]at hk;have:=aO Env.zero _ hk.1;exact⟨_,List.getElem?_eq_getElem (by rw[this,hk.2.2];exact hz)⟩
   obtain⟨u,hu⟩:=hsome;rw[hu]at h0;simp only[Nat.zero_mul,Addr.add,if_true]at h0
   have hspot:a.spot=none:=by
    unfold World.cell? at h0;split at h0
    ·split at h0
     ·simp at h0
     ·rename_i hs;simpa using hs
    ·simp at h0
   refine⟨a,rfl,hspot,World.block_lt_of_cell? W a h0,fun j hj k hk=>?_⟩
   have:=hcell0 j (by rw[e1,l1]at hj;exact hj) k hk
   rw[<-this];congr 1
   obtain⟨b,o,s⟩:=a;simp only at hspot;subst hspot;rw[add_lit,add_lit];show(⟨b,o+(j*esz+k),none⟩:Addr)=⟨b,o+j*esz+k,none⟩
   rw[Nat.add_assoc]
theorem A7{α:Type}{W:World}{t e esz:TypeId}{base:Nat}{v:Value}{d:DataW H}{ps:List MemPlace}(ht:P.underlying t=some (.slice e))(hc:P.cellsOf e=esz)(hz:0<esz)
  (hval:Value.okWide P W .any base t v) (hd:DataW.Trod enc P W 0 (fun _=>true) true t v d ps) (mk:α->V) (wf:α->Prop) (tl:List α->TL) (d0:α) (htl:∀l:List α,(tl l).len=l.length/\∀i,(tl l).get i=mk (aX l i d0))
  (hmk:∀y,wf y->ok (fun _=>False) (mk y)/\bp (mk y)=false/\bP (mk y)=esz) (hop:∀n cs x,DataW.trod enc P W 0 (fun _=>true) true n e cs=some x->∃y,wf y/\cs=cells Env.zero (mk y)):
  ∃l:List α,(∀y∈l,wf y)/\sw W v esz (tl l):=
 yb ht hc hz (okWide_slice ht hval) hd mk wf tl d0 htl hmk hop
end
end Go.Sx
set_option maxRecDepth 100000
namespace Go.Proofs.YtmfbohanboiklaaGreatDoor
open Go.Sx Go.ChangeShapes Go.WideShapes
theorem Lc:ownKnob Tryz.prog.godebug=none:=by kernel_rfl
theorem Jp:laidOutB Tryz.prog=true:=by kernel_rfl
section
variable {H:Type} {enc:TypeId×Value->H} {W:World} {base:Nat} {v:Value} {d:DataW H} {ps:List MemPlace}
end
end Go.Proofs.YtmfbohanboiklaaGreatDoor
set_option maxRecDepth 100000
namespace Go.Proofs.YtmfbohanboiklaaGreatDoor
open Go.Sx Go.ChangeShapes Go.WideShapes
def HN{α:Type}(ks:List Kd)(W:α->Prop)(m:α->V):Prop:=
 (∀cs,p8 ks cs->∃x,W x/\cs=cells Env.zero (m x))/\∀x,W x->ok (fun _=>False) (m x)/\bp (m x)=false/\bP (m x)=ks.length
def Dy{α:Type}(ks:List Kd)(W:α->Prop)(m:α->List V):Prop:=
 (∀cs,p8 ks cs->∃x,W x/\cs=aR Env.zero (m x))/\∀x,W x->cm (fun _=>False) (m x)/\oE (m x)/\ko (m x)=ks.length
theorem D9:Dy [] (fun _:Unit=>True) (fun _=> []):=by
 refine⟨fun cs h=>?_,fun _ _=>⟨trivial,trivial,rfl⟩⟩
 cases cs with
 |nil=>exact⟨(),trivial,rfl⟩
 |cons a l=>exact h.elim
theorem jr{α β:Type}{ks1 ks2:List Kd}{W1:α->Prop}{W2:β->Prop}{m1:α->V}{m2:β->List V}(h1:HN ks1 W1 m1)(h2:Dy ks2 W2 m2):Dy (ks1++ks2) (fun x:α×β=>W1 x.1/\W2 x.2) (fun x=>m1 x.1::m2 x.2):=by
 refine⟨fun cs h=>?_,fun x hx=>?_⟩
 ·obtain⟨g1,g2⟩:=p8.split h;obtain⟨a,a1,a2⟩:=h1.1 _ g1;obtain⟨b,b1,b2⟩:=h2.1 _ g2;refine⟨(a,b),⟨a1,b1⟩,?_⟩;have e:aR Env.zero (m1 a::m2 b)=cells Env.zero (m1 a)++aR Env.zero (m2 b):=rfl;show cs=aR Env.zero (m1 a::m2 b)
  rw[e,<-a2,<-b2,List.take_append_drop]
 ·obtain⟨a1,a2,a3⟩:=h1.2 x.1 hx.1;obtain⟨b1,b2,b3⟩:=h2.2 x.2 hx.2;refine⟨⟨a1,b1⟩,⟨?_,b2⟩,?_⟩
  ·cases hm:m1 x.1<;>rw[hm]at a2<;>first|trivial|simp[bp]at a2
  ·show bP (m1 x.1)+ko (m2 x.2)=_
   rw[a3,b3,List.length_append]
theorem uP{α:Type}{ks:List Kd}{W:α->Prop}{m:α->List V}(h:Dy ks W m):HN ks W (fun x=> .ag (m x)):=
 ⟨fun cs hc=>by
  obtain⟨x,h1,h2⟩:=h.1 cs hc;exact⟨x,h1,by rw[h2];simp[cells,den,Value.cells]⟩,fun x hx=>⟨⟨(h.2 x hx).1,(h.2 x hx).2.1⟩,rfl,(h.2 x hx).2.2⟩⟩
theorem vH(k:IntKind):HN [.i k] (bU k) (V.it k):=by
 refine⟨fun cs h=>?_,fun x hx=>⟨hx,rfl,rfl⟩⟩
 match cs,h with
 | [],h=>exact h.elim
 | [a],h=>obtain⟨⟨n,rfl,hn⟩,_⟩:=h;exact⟨n,hn,rfl⟩
 |_::_::_,h=>exact h.2.elim
section
variable {H:Type} {enc:TypeId×Value->H} {W:World} {base:Nat} {v:Value} {d:DataW H} {ps:List MemPlace}
theorem Dl{α:Type}{t:TypeId}{fs:Array Field}{ks:List Kd}{wf:α->Prop}{m:α->V}(ht:Tryz.prog.underlying t=some (.struct fs))(hf:flatK Tryz.prog 8 t=some ks)(ho:HN ks wf m)(hag:∀x,eC (m x)=true)
  (hval:Value.okWide Tryz.prog W .any base t v) (hd:DataW.Trod enc Tryz.prog W 0 (fun _=>true) true t v d ps):∃o:α,wf o/\∀J,v=den J (m o):=by
 unfold Value.okWide at hval;rw[ht]at hval;obtain⟨cs,rfl,_⟩:=hval;obtain⟨n,hx⟩:=hd;obtain⟨o,h1,h2⟩:=ho.1 _ (lW 8 _ _ hf n _ _ hx);refine⟨o,h1,fun J=>?_⟩
 have hk:=ho.2 o h1;have hcs:(Value.agg cs).cells.toList=cs.toList:=rfl;rw[hcs]at h2;rw[gD J hk.1 hk.2.1,hag,bw (N:=fun _=>False) (J:=Env.zero) (ρ':=J) (fun _ h=>h.elim) _ hk.1,<-h2]
 simp[eA]
theorem Au{α:Type}{t e:TypeId}{ks:List Kd}{wf:α->Prop}{m:α->V}(tl:List α->TL)(d0:α)(ht:Tryz.prog.underlying t=some (.slice e))(hf:flatK Tryz.prog 8 e=some ks)(hc:Tryz.prog.cellsOf e=ks.length)(hz:0<ks.length)(ho:HN ks wf m)
  (htl:∀l:List α,(tl l).len=l.length/\∀i,(tl l).get i=m (aX l i d0)) (hval:Value.okWide Tryz.prog W .any base t v) (hd:DataW.Trod enc Tryz.prog W 0 (fun _=>true) true t v d ps):
  ∃l:List α,(∀o∈l,wf o)/\sw W v ks.length (tl l):=
 A7 (esz:=ks.length) ht hc hz hval hd m wf tl d0 htl (fun y hy=>ho.2 y hy) fun n cs x hx=>ho.1 _ (lW 8 _ _ hf n cs x hx)
end
theorem FO{J:Env}{res:List aI}{W:World}(h:aQ J (fun _ _=>False) res (known res) W (fun _=>False) W)(hk:∀i,i<res.length->known res i):aQ J (fun _ _=>False) (gR res) (known (gR res)) W (fun _=>False) W:=by
 have hg:∀i,aH (gR res) i=if i<res.length then .ro (aH res i)else .yet:=fun i=>by
  rw[gB,gB];unfold gR;by_cases hi:i<res.length
  ·simp[aq,hi]
  ·simp[aq,hi]
 have hkn:∀i,known (gR res) i↔i<res.length:=fun i=>by
  unfold known;rw[hg];split<;>simp_all
 refine⟨fun i hi=>hi,Nat.le_refl _,rfl,rfl,rfl,fun i hi=>?_,fun i b _ h=>h.elim,fun i j b _ _ _ h=>h.elim,fun i b _ h=>h.elim,fun _ _ _=>rfl⟩
 have hlt:=(hkn i).1 hi;rw[hg,au hlt];exact⟨fun _=>False,aI.iE _ (h.holds i (hk i hlt)) fun j hj=>(hkn j).2 (aK hj),fun b hb=>hb.elim⟩
theorem AW{A:List (Value×Nat×TL)}:∀i,i<(gp A).length->known (gp A) i:=fun i hi=>by
 rw[je]at hi;unfold known;rw[jP,List.getElem?_eq_getElem hi];simp
theorem C4{l:List aI}{i:Nat}{r:aI}(h:aH l i= .ro r):known l i:=by
 unfold known;rw[h];simp
end Go.Proofs.YtmfbohanboiklaaGreatDoor
