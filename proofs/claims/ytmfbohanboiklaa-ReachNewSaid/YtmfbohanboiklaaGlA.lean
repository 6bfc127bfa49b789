import Derived.Test.YtmfbohanboiklaaSxF
import Derived.OpenShut
import Derived.Deep.Slices
import Derived.ChangeArms
import Derived.ChangeSame
import Derived.ChangeBook
import Derived.RowKit
import Derived.ProofKit
import Derived.ChangeMaps5
set_option linter.unusedSimpArgs false
set_option linter.unusedVariables false
namespace Go.Sx
open Go.ChangeShapes Go.WideShapes
def Kd.MZ:Kd->Value->Prop
 | .b,v=>∃x,v= .bool x
 | .s,v=>∃x:ByteArray,v= .string x/\x.size<=maxLen
 | .i k,v=>∃n,v= .int k n/\bG k n
def mZ:List Kd->List Value->Prop
 | [],[]=>True
 |k::ks,v::vs=>k.MZ v/\mZ ks vs
 |_,_=>False
theorem mZ.length:∀{ks:List Kd} {vs:List Value},mZ ks vs->vs.length=ks.length
 | [],[],_=>rfl
 |_::_,_::_,h=>by simp[mZ.length h.2]
 | [],_::_,h=>h.elim
 |_::_,[],h=>h.elim
theorem mZ.split:∀{a b:List Kd} {vs:List Value},mZ (a++b) vs->mZ a (vs.take a.length)/\mZ b (vs.drop a.length)
 | [],b,vs,h=>by simpa[mZ]using h
 |k::a,b,[],h=>h.elim
 |k::a,b,v::vs,h=>by
  obtain⟨h1,h2⟩:=mZ.split (a:=a) h.2;exact⟨by simpa[mZ]using⟨h.1,h1⟩,by simpa using h2⟩
theorem mZ.join:∀{a b:List Kd} {vs us:List Value},mZ a vs->mZ b us->mZ (a++b) (vs++us)
 | [],_,[],_,_,h=>by simpa using h
 |k::a,_,v::vs,_,h,h'=>⟨h.1,mZ.join h.2 h'⟩
 | [],_,_::_,_,h,_=>h.elim
 |_::_,_,[],_,h,_=>h.elim
theorem Js {k:IntKind} {n:Int} (h:(Lit.int k n).wf=true):bG k n:=by
 cases k<;>simp[Lit.wf,IntKind.min,IntKind.max,IntKind.signed,IntKind.bits]at h<;>simp only[bG]<;>omega
theorem sE {α:Type} {l:List α} {c n:Nat} (h:(l.take c).length=n):l.take c=l.take n:=by
 rw[List.length_take]at h;rcases Nat.le_total c l.length with hc|hc
 ·rw[Nat.min_eq_left hc]at h;rw[h]
 ·rw[Nat.min_eq_right hc]at h;rw[List.take_of_length_le hc,List.take_of_length_le (by omega)]
section
variable {H:Type} {enc:TypeId×Value->H} {P:Program} {w:World} {base:Nat} {sp:Nat->Bool} {held:Bool}
theorem lY {t n:Nat} (h:iP P t=some n):P.cellsOf t=n:=by
 unfold iP at h;unfold Program.cellsOf;rw[h];rfl
theorem qi {m f:Nat} (ih:∀t ks,flatK P f t=some ks->∀cs x,DataW.trod enc P w base sp held m t cs=some x->mZ ks cs) (cs:List Value):∀(fs:List Field) (off:Nat) (ks:List Kd),fT (flatK P f) off fs=some ks->
  (∀g∈fs,∃x,DataW.trod enc P w base sp held m g.type ((cs.drop g.offset).take (P.cellsOf g.type))=some x)->mZ ks ((cs.drop off).take ks.length)
 | [],off,ks,h,_=>by
   simp only[fT,N1]at h;subst h;simp[mZ]
 |g::fs,off,ks,h,hx=>by
  simp only[fT]at h;split at h
  ·rename_i hc;simp only[N3,bne_iff_ne,ne_eq,N5]at hc;obtain⟨hn,ho⟩:=hc;cases hg:flatK P f g.type with
   |none=>simp[hg]at h
   |some k1=>
    simp only[hg]at h;cases hr:fT (flatK P f) (off+k1.length) fs with
    |none=>simp[hr]at h
    |some k2=>
     simp only[hr,Option.map_some,N1]at h;subst h;obtain⟨x,hx1⟩:=hx g (by simp)
     have t1:=ih _ _ hg _ _ hx1;have hl:=t1.length;rw[sE hl,ho]at t1;have t2:=qi ih cs fs (off+k1.length) k2 hr fun g' hg'=>hx g' (by simp[hg'])
     have:(cs.drop off).take (k1++k2).length=(cs.drop off).take k1.length++(cs.drop (off+k1.length)).take k2.length:=by
      rw[List.length_append,List.take_add,List.drop_drop]
     rw[this];exact t1.join t2
  ·simp at h
theorem pP:∀(f:Nat) (t:TypeId) (ks:List Kd),flatK P f t=some ks->∀(fuel:Nat) (cs:List Value) (x:DataW H×List MemPlace),DataW.trod enc P w base sp held fuel t cs=some x->mZ ks cs
 |0,_,_,h,_,_,_,_=>by simp[flatK]at h
 |f+1,t,ks,h,fuel,cs,x,hx=>by
  simp only[flatK]at h;split at h
  ·rename_i hu;simp only[N1]at h;subst h;obtain⟨b,rfl,_⟩:=DataW.trod_bool hu hx;exact⟨⟨b,rfl⟩,trivial⟩
  ·rename_i hu;simp only[N1]at h;subst h;obtain⟨b,rfl,_,hb⟩:=DataW.trod_string hu hx;exact⟨⟨b,rfl,hb⟩,trivial⟩
  ·rename_i k hu;simp only[N1]at h;subst h;obtain⟨n,rfl,_,hw⟩:=DataW.trod_int hu hx;exact⟨⟨n,rfl,Js hw⟩,trivial⟩
  ·rename_i fs hu;split at h
   ·simp at h
   ·split at h
    ·simp at h
    ·rename_i ks' hfs;split at h
     ·rename_i hs;have hs:=N5.1 hs;simp only[N1]at h;subst h;obtain⟨xs,n,rfl,_,hl,hxl,hall⟩:=DataW.trod_struct hu hx
      have:=qi (fun t ks h cs x hx=>pP f t ks h n cs x hx) cs fs.toList 0 ks' hfs fun g hg=>by
       obtain⟨i,hi,hgi⟩:=List.getElem_of_mem hg;have hfi:fs[i]? =some g:=by rw[<-Array.getElem?_toList,List.getElem?_eq_getElem hi,hgi]
       have:=hall i g hfi;rw[List.getElem?_eq_getElem (by rw[hxl];simpa using hi)]at this
       exact⟨_,this⟩
      rw[lY hs]at hl;rw[List.drop_zero,<-hl,List.take_length]at this;exact this
     ·simp at h
  ·rename_i n e hu;split at h
   ·simp at h
   ·rename_i k1 he;split at h
    ·rename_i hs;simp only[N3,N5]at hs;simp only[N1]at h;subst h;obtain⟨xs,m,rfl,_,hl,hxl,hall⟩:=DataW.trod_array hu hx;rw[lY hs.2]at hl;rw[lY hs.1]at hall
     have key:∀j,j<=n->mZ (List.replicate j k1).flatten (cs.take (j*k1.length)):=by
      intro j;induction j with
      |zero=>intro _;simp[mZ]
      |succ j ihj=>
       intro hj;have h1:=ihj (by omega)
       have h2:=hall j (by omega)
       rw[List.getElem?_eq_getElem (by omega)]at h2
       have h3:=pP f e k1 he m _ _ h2;rw[List.replicate_succ',List.flatten_append,Nat.succ_mul,List.take_add];simpa using h1.join h3
     have:=key n (Nat.le_refl _);rwa [<-hl,List.take_length]at this
    ·simp at h
  ·simp at h
end
theorem vq {k:Kd}:∀{n:Nat} {vs:List Value},mZ (List.replicate n k) vs↔vs.length=n/\∀v∈vs,k.MZ v
 |0,[]=>by simp[mZ]
 |0,_::_=>by simp[mZ]
 |n+1,[]=>by simp[mZ,List.replicate_succ]
 |n+1,v::vs=>by
  rw[List.replicate_succ];simp only[mZ,vq (n:=n),List.length_cons,List.mem_cons,forall_eq_or_imp];constructor
  ·rintro⟨a,b,c⟩;exact⟨by omega,a,c⟩
  ·rintro⟨a,b,c⟩;exact⟨b,by omega,c⟩
theorem uo:∀(m:Nat) (cs:List Value),mZ (List.replicate (m*6) (.i .i64)) cs->∃ks:List Key,ks.length=m/\(∀k∈ks,k.wf)/\cs=ks.flatMap bw
 |0,cs,h=>by
  rw[vq]at h;have:cs= []:=List.length_eq_zero_iff.1 (by omega)
  exact⟨[],rfl,by simp,by simp[this]⟩
 |m+1,cs,h=>by
  rw[show(m+1)*6=6+m*6 by omega,<-List.replicate_append_replicate]at h
  obtain⟨h1,h2⟩:=h.split;simp only[List.length_replicate]at h1 h2;obtain⟨ks,i1,i2,i3⟩:=uo m _ h2;match cs,h1,i3 with
  |a::b::c::d::e::f::rest,h1,i3=>
   obtain⟨⟨n1,rfl,r1⟩,⟨n2,rfl,r2⟩,⟨n3,rfl,r3⟩,⟨n4,rfl,r4⟩,⟨n5,rfl,r5⟩,⟨n6,rfl,r6⟩,_⟩:=h1;refine⟨⟨n1,n2,n3,n4,n5,n6⟩::ks,by simp[i1],fun k hk=>?_,?_⟩
   ·rcases List.mem_cons.1 hk with rfl|hk
    ·exact⟨r1,r2,r3,r4,r5,r6⟩
    ·exact i2 k hk
   ·simp only[List.drop_succ_cons,List.drop_zero]at i3;simp[bw,i64,i3]
  | [],h1,_=>exact h1.elim
  | [_],h1,_=>exact h1.2.elim
  | [_,_],h1,_=>exact h1.2.2.elim
  | [_,_,_],h1,_=>exact h1.2.2.2.elim
  | [_,_,_,_],h1,_=>exact h1.2.2.2.2.elim
  | [_,_,_,_,_],h1,_=>exact h1.2.2.2.2.2.elim
theorem yy {cs:List Value} (h:mZ (List.replicate 96 (.i .i64)) cs):∃s:cj,s.wf/\cs=cJ s:=by
 obtain⟨ks,h1,h2,h3⟩:=uo 16 cs h;refine⟨⟨ks.toArray,by simp[h1]⟩,fun i hi=>?_,?_⟩
 ·have:(cj.at ⟨ks.toArray,by simp[h1]⟩ i)=ks[i]'(by omega):=by simp[cj.at,h1,hi]
  rw[this];exact h2 _ (List.getElem_mem _)
 ·have hr:List.range ks.length=List.range 16:=by rw[h1]
  rw[h3,Go.Deep.flatMap_by_index ks void,hr];unfold cJ;refine Go.Deep.flatMap_congr_range fun i hi=>?_
  simp[cj.at,N8]
theorem zr {cs:List Value} (h:mZ (List.replicate 64 (.i .u8)) cs):∃s:Bytes,cs=bf s:=by
 rw[vq]at h;obtain⟨h1,h2⟩:=h
 have key:∀l:List Value,(∀v∈l,(Kd.i .u8).MZ v)->∃bs:List UInt8,l=bs.map fun b=>Value.int .u8 (b.toNat:Int):=by
  intro l;induction l with
  |nil=>intro _;exact⟨[],rfl⟩
  |cons v l ih=>
   intro hl;obtain⟨n,rfl,hn⟩:=hl v (by simp)
   obtain⟨bs,rfl⟩:=ih fun u hu=>hl u (by simp[hu])
   simp only[bG]at hn;refine⟨UInt8.ofNat n.toNat::bs,?_⟩
   have:(UInt8.ofNat n.toNat).toNat=n.toNat:=by
    rw[UInt8.toNat_ofNat'];omega
   simp only[List.map_cons,this,List.cons.injEq,Value.int.injEq,true_and,and_true];omega
 obtain⟨bs,rfl⟩:=key cs h2;simp only[List.length_map]at h1;refine⟨⟨bs.toArray,by simp[h1]⟩,?_⟩
 have hr:List.range bs.length=List.range 64:=by rw[h1]
 rw[Go.Deep.map_by_index bs 0,hr];unfold bf;refine List.map_congr_left fun i hi=>?_
 simp[Bytes.at,N8]
theorem H4 {cs:List Value} (h:mZ DW cs):∃o:Obj,o.wf/\cs=bO o:=by
 have e:DW=List.replicate 3 (.i .i64)++(List.replicate 96 (.i .i64)++List.replicate 64 (.i .u8)):=rfl;rw[e]at h;obtain⟨h1,h2⟩:=h.split;obtain⟨h3,h4⟩:=h2.split;simp only[List.length_replicate]at h1 h3 h4;obtain⟨s,hs,e1⟩:=yy h3;obtain⟨b,e2⟩:=zr h4;match cs,h1,e1,e2 with
 |x::y::z::rest,h1,e1,e2=>
  obtain⟨⟨n1,rfl,r1⟩,⟨n2,rfl,r2⟩,⟨n3,rfl,r3⟩,_⟩:=h1;refine⟨⟨n1,n2,n3,s,b⟩,⟨r1,r2,r3,hs⟩,?_⟩;simp only[List.drop_succ_cons,List.drop_zero]at e1 e2;simp only[bO,i64,List.cons.injEq,true_and];rw[<-e1,<-e2,List.take_append_drop]
 | [],h1,_,_=>exact h1.elim
 | [_],h1,_,_=>exact h1.2.elim
 | [_,_],h1,_,_=>exact h1.2.2.elim
end Go.Sx
namespace Go.Sx
open Go.RowKit (Below)
open Go.ChangeShapes Go.WideShapes
section
variable {H:Type} {enc:TypeId×Value->H} {P:Program}
theorem BF {f:Nat} {vs:List V} {res:List ai} (h:aj P f vs res (pW (.bo true)) (fun _ _=>False)) {J:Env} {W:World} (hH:aw J (fun _ _=>False) res (known res) W (fun _=>False) W) (hok:cq (known res) vs):
  Calls P f (aD J vs).toArray W fun e W'=>e= .returned (.bool true)/\Below W.heap.size W W':=
 (J9 (h J _ W _ W hH hok)).mono fun e W' ⟨x,ρ',fps',res',g1,g2,g3,g4⟩=>by
  rcases g4 with⟨rfl,hK⟩|⟨_,hK⟩
  ·obtain⟨e1,_,_⟩:=cK hK ρ' (known res');refine⟨by rw[e1];rfl,g1.os,g1.tape,g1.output,g1.old,fun b hb=>g1.same b hb (fun h=>h)⟩
  ·exact hK.elim
theorem na {W W':World} (hB:Below W.heap.size W W') (hl:laidOutB P=true):∀{ts:List TypeId} {vs:List Value} {ds:List (DataW H)} {p:List MemPlace},
  (∀t∈ts,P.readableRec t=true/\t<P.types.size)->DataW.TrodAll enc P W 0 (fun _=>true) true ts vs ds p->(∀q∈p,q.block<W.heap.size)->∀sp:Nat->Bool,(∀q∈p,sp q.block=true)->DataW.TrodAll enc P W' 0 sp true ts vs ds p
 | [],vs,ds,p,_,h,_,sp,_=>by
   obtain⟨rfl,rfl,rfl⟩:=trodAll_nil h;exact trodAll_mk0
 |t::ts,vs,ds,p,hr,h,hlt,sp,hsp=>by
  obtain⟨v,vs',d,ds',p1,q1,rfl,rfl,rfl,⟨n,h1⟩,h2⟩:=trodAll_cons h;obtain⟨r1,r2⟩:=hr t (by simp)
  refine trodAll_cons_mk ⟨n,?_⟩ (na hB hl (fun t ht=>hr t (by simp[ht])) h2 (fun q hq=>hlt q (List.mem_append_right _ hq)) sp fun q hq=>hsp q (List.mem_append_right _ hq))
  exact DataW.trod_stays (kids_book hl r1) (book_sized r1) (fun h=>by cases h) ⟨r2,book_self t⟩ h1 (fun q hq=>hB.same (hlt q (List.mem_append_left _ hq))) fun q hq=>hsp q (List.mem_append_left _ hq)
theorem DK {f:Func} {s:ChangeSpec} {apart fresh handsOn again:Bool} {W W':World} {args:Array Value} {ds gs:List (DataW H)} {before:List MemPlace} {tb:TypeId}
  (hW:DataW.Whole enc P f.params.toList s.vars apart W args.toList ds gs before) (hvars:s.vars= []) (hB:Below W.heap.size W W') (hl:laidOutB P=true)
  (hr:∀t∈f.params.toList,P.readableRec t=true/\t<P.types.size) (hrt:f.resultTypes= #[tb]) (htb:P.underlying tb=some .bool)
  (hs:(s.fn H (ds++gs)).results= [.lit (.bool true)]/\(s.fn H (ds++gs)).args=ds/\(s.fn H (ds++gs)).vars= []):s.post enc P f apart fresh handsOn again W args (.bool true) W':=by
 have hW':=hW;have hlt:=hW.lt;obtain⟨pa,pv,hA,hV,hps,hz,hn⟩:=hW;rw[hvars]at hV;obtain⟨rfl,rfl⟩:=trodVars_none hV;rw[List.append_nil]at hps;subst hps;have hag:∀sp:Nat->Bool,(∀q∈before,sp q.block=true)->DataW.TrodAll enc P W' 0 sp true f.params.toList args.toList ds before:=fun sp hsp=>na hB hl hr hA hlt sp hsp
 have hres:∀(b:Nat) (sp:Nat->Bool) (hd:Bool),DataW.TrodAll enc P W' b sp hd f.resultTypes.toList ((Value.bool true).resultList f.resultTypes.size) [.lit (.bool true)] []:=fun b sp hd=>by
  rw[hrt];exact trodAll_mk1 (RowKit.shut_bool htb true)
 have hok:∀(j:Nat) (t:TypeId) (r:Value),f.resultTypes[j]? =some t->((Value.bool true).resultList f.resultTypes.size)[j]? =some r->Value.okWide P W' .any 0 t r:=RowKit.ok_one hrt rfl (RowKit.okWide_bool_mk htb true);refine⟨ds,[],before,[],before,[],hW',by rw[hs.1];exact hres _ _ _,?_,?_,hB.frame _,fun _=>⟨hok,?_⟩⟩
 ·rw[hs.2.1];exact hag _ fun q hq=>by simpa using hlt q hq
 ·rw[hvars,hs.2.2];rfl
 ·refine⟨[.lit (.bool true)]++ds,[],before,⟨[]++before,[],trodAll_append (hag _ fun _ _=>rfl) (hres _ _ _),by rw[hvars];rfl,by simp,fun b off hp=>?_,hn⟩,fun p hp _=>hp⟩
  have:=hz b off hp;rw[hB.frozen (p:=⟨b,off,none⟩) (hlt _ hp)];exact this
def oK (w:World) (v:Value) (esz:Nat) (l:TL):Prop:=
 (∀j,j<l.len->ok (fun _=>False) (l.get j)/\a8 (l.get j)=false/\bI (l.get j)=esz)/\l.len<=9223372036854775807/\
 ∃(sa:Option Addr) (cap:Nat),v= .slice sa l.len cap/\(0<l.len->∃a,sa=some a/\a.spot=none/\a.block<w.heap.size/\∀j,j<l.len->∀k,k<esz->w.cell? ⟨a.block,a.off+(j*esz+k),none⟩=(cells Env.zero (l.get j))[k]?)
def L7:Value->Option Addr
 | .slice a _ _=>a
 |_=>none
def MN:Value->Nat
 | .slice _ n _=>n
 |_=>0
def NK:Value->Nat
 | .slice _ _ c=>c
 |_=>0
def nt (A:List (Value×Nat×TL)):Env:=
 {num:=fun _=>0,cap:=fun i=>NK (A.getD i (.slice none 0 0,0,.bo [])).1,adr:=fun i=>(L7 (A.getD i (.slice none 0 0,0,.bo [])).1).getD ⟨0,0,none⟩,sa:=fun i=>L7 (A.getD i (.slice none 0 0,0,.bo [])).1,
  sn:=fun i=>MN (A.getD i (.slice none 0 0,0,.bo [])).1,ob:=fun _ _=>0}
def gF:List (Value×Nat×TL)->List ai
 | []=> []
 |a::l=> .arr none a.2.1 a.2.2::gF l
theorem kr:∀(A:List (Value×Nat×TL)) (i:Nat),ae (gF A) i=match A[i]? with|some a=> .arr none a.2.1 a.2.2|none=> .yet
 | [],i=>by simp[gF,ae]
 |a::l,0=>by simp[gF,ae]
 |a::l,i+1=>by simp[gF,ae,kr l i]
theorem jl:∀A:List (Value×Nat×TL),(gF A).length=A.length
 | []=>rfl
 |a::l=>by simp[gF,jl l]
theorem ES {A:List (Value×Nat×TL)} {W:World} (h:∀a∈A,oK W a.1 a.2.1 a.2.2):aw (nt A) (fun _ _=>False) (gF A) (known (gF A)) W (fun _=>False) W:=by
 refine⟨fun i hi=>hi,Nat.le_refl _,rfl,rfl,rfl,fun i hi=>?_,fun i b _ h=>h.elim,fun i j b _ _ _ h=>h.elim,fun i b _ h=>h.elim,fun _ _ _=>rfl⟩
 have hlt:=ak hi;rw[jl]at hlt;have hA:A[i]? =some A[i]:=List.getElem?_eq_getElem hlt;have hh:=h A[i] (List.getElem_mem hlt);generalize A[i]=a at hA hh
 rw[kr,hA];simp only;obtain⟨h1,h2,sa,cap,h3,h4⟩:=hh;have hd:A.getD i (.slice none 0 0,0,.bo [])=a:=by rw[N8,hA];rfl
 have e1:(nt A).sa i=sa:=by show L7 (A.getD i _).1=sa;rw[hd,h3];rfl
 have e2:(nt A).sn i=a.2.2.len:=by show MN (A.getD i _).1=_;rw[hd,h3];rfl
 have e3:(nt A).adr i=sa.getD ⟨0,0,none⟩:=by show(L7 (A.getD i _).1).getD _=_;rw[hd,h3];rfl
 refine⟨h1,e2,h2,fun x hx=>?_,fun hl=>?_,fun hl=>?_,.inl ⟨rfl,fun hl=>?_,fun j hj k hk=>?_⟩⟩
 ·rw[e1]at hx;rw[e3,hx];rfl
 ·obtain⟨x,rfl,_⟩:=h4 hl;rw[e1];rfl
 ·obtain⟨x,rfl,g,_⟩:=h4 hl;rw[e3];exact g
 ·obtain⟨x,rfl,_,g,_⟩:=h4 hl;exact⟨fun h=>h,by rw[e3];exact g⟩
 ·obtain⟨x,rfl,_,_,g⟩:=h4 (by omega)
  have:=g j hj k hk;rw[e3];simp only[Option.getD_some];rw[this,bj (N:=fun _=>False) (J:=Env.zero) (ρ':=nt A) (fun _ h=>h.elim) _ (h1 j hj).1]
theorem wa {A:List (Value×Nat×TL)} {W:World} (h:∀a∈A,oK W a.1 a.2.1 a.2.2) {i:Nat} {a:Value×Nat×TL} (hi:A[i]? =some a):den (nt A) (.sa i)=a.1/\known (gF A) i:=by
 obtain⟨h1,h2,sa,cap,h3,h4⟩:=h a (List.mem_of_getElem? hi);have hd:A.getD i (.slice none 0 0,0,.bo [])=a:=by rw[N8,hi];rfl
 refine⟨?_,by unfold known;rw[kr,hi];simp⟩
 show Value.slice (L7 (A.getD i _).1) (MN (A.getD i _).1) (NK (A.getD i _).1)=a.1
 rw[hd,h3];rfl
theorem qd {α:Type} {p:Nat->α->Prop}:∀n:Nat,(∀i,i<n->∃y,p i y)->∃l:List α,l.length=n/\∀(i:Nat) (y:α),l[i]? =some y->p i y
 |0,_=>⟨[],rfl,by simp⟩
 |n+1,h=>by
  obtain⟨l,h1,h2⟩:=qd n fun i hi=>h i (by omega)
  obtain⟨y,hy⟩:=h n (by omega)
  refine⟨l++ [y],by simp[h1],fun i z hz=>?_⟩
  by_cases hi:i<n
  ·rw[List.getElem?_append_left (by omega)]at hz
   exact h2 i z hz
  ·rw[List.getElem?_append_right (by omega)]at hz
   have:i-l.length=0:=by
    have:=(List.getElem?_eq_some_iff.1 hz).1;simp at this;omega
   rw[this]at hz;simp at hz;subst hz;rw[show i=n by omega];exact hy
theorem yq {α:Type} {W:World} {t e esz:TypeId} {v:Value} {d:DataW H} {ps:List MemPlace} (ht:P.underlying t=some (.slice e)) (hc:P.cellsOf e=esz) (hz:0<esz)
  (hval:∃a0 ln cp,v= .slice a0 ln cp) (hd:DataW.Trod enc P W 0 (fun _=>true) true t v d ps) (mk:α->V) (wf:α->Prop) (tl:List α->TL) (d0:α) (htl:∀l:List α,(tl l).len=l.length/\∀i,(tl l).get i=mk (ay l i d0))
  (hmk:∀y,wf y->ok (fun _=>False) (mk y)/\a8 (mk y)=false/\bI (mk y)=esz) (hop:∀n cs x,DataW.trod enc P W 0 (fun _=>true) true n e cs=some x->∃y,wf y/\cs=cells Env.zero (mk y)):
  ∃l:List α,(∀y∈l,wf y)/\oK W v esz (tl l):=by
 obtain⟨a0,ln,cp,rfl⟩:=hval;obtain⟨fuel,hf⟩:=hd;rcases Go.Deep.open_slice ht hf with⟨hcs,_⟩|⟨a,len,cap,m,n,D,Pl,hcs,_,hlc,hcm,hm,_,hx⟩
 ·simp[Value.cells]at hcs;obtain⟨rfl,rfl,rfl⟩:=hcs;obtain⟨e1,e2⟩:=htl [];have e1:(tl []).len=0:=e1;exact⟨[],by simp,fun j hj=>by omega,by omega,none,0,by rw[e1],fun h=>by omega⟩
 ·simp[Value.cells]at hcs;obtain⟨rfl,rfl,rfl⟩:=hcs;simp only[if_true]at hm;subst hm
  have hx':∀i,i<ln->∃y,wf y/\∀k,k<esz->W.cell? ((a.add (i*esz)).add k)=(cells Env.zero (mk y))[k]? :=fun i hi=>by
   obtain⟨cs,g1,g2⟩:=hx i (by omega)
   rw[hc]at g1;obtain⟨y,y1,y2⟩:=hop n cs _ g2;obtain⟨_,_,g3⟩:=World.cells?_some g1;exact⟨y,y1,fun k hk=>by rw[g3 k hk,y2]⟩
  obtain⟨l,l1,l2⟩:=qd ln hx';obtain⟨e1,e2⟩:=htl l
  have hget:∀j,j<ln->l[j]? =some (ay l j d0):=fun j hj=>by
   unfold ay;rw[N8,List.getElem?_eq_getElem (by omega)];rfl
  have hcell0:∀j,j<ln->∀k,k<esz->W.cell? ((a.add (j*esz)).add k)=(cells Env.zero ((tl l).get j))[k]? :=fun j hj k hk=>by
   rw[e2];exact(l2 j _ (hget j hj)).2 k hk
  refine⟨l,fun y hy=>?_,fun j hj=>?_,?_,some a,m,by rw[e1,l1],fun hl=>?_⟩
  ·obtain⟨i,hi,rfl⟩:=List.getElem_of_mem hy;exact(l2 i _ (List.getElem?_eq_getElem hi)).1
  ·rw[e2];exact hmk _ (l2 j _ (hget j (by rw[e1,l1]at hj;exact hj))).1
  ·have:m<=9223372036854775807:=by simpa[maxLen]using hcm
   omega
  ·have hln:0<ln:=by rw[e1,l1]at hl;exact hl
   have h0:=hcell0 0 hln 0 hz
   have hsome:∃u,(cells Env.zero ((tl l).get 0))[0]? =some u:=by
    have hk:=hmk _ (l2 0 _ (hget 0 hln)).1;rw[<-e2]at hk;have:=ar Env.zero _ hk.1;exact⟨_,List.getElem?_eq_getElem (by rw[this,hk.2.2];exact hz)⟩
   obtain⟨u,hu⟩:=hsome;rw[hu]at h0;simp only[Nat.zero_mul,Addr.add,if_true]at h0
   have hspot:a.spot=none:=by
    unfold World.cell? at h0;split at h0
    ·split at h0
     ·simp at h0
     ·rename_i hs;simpa using hs
    ·simp at h0
   refine⟨a,rfl,hspot,World.block_lt_of_cell? W a h0,fun j hj k hk=>?_⟩
   have:=hcell0 j (by rw[e1,l1]at hj;exact hj) k hk
   rw[<-this];congr 1
   obtain⟨b,o,s⟩:=a;simp only at hspot;subst hspot;rw[add_lit,add_lit];show(⟨b,o+(j*esz+k),none⟩:Addr)=⟨b,o+j*esz+k,none⟩
   rw[Nat.add_assoc]
theorem A8 {α:Type} {W:World} {t e esz:TypeId} {base:Nat} {v:Value} {d:DataW H} {ps:List MemPlace} (ht:P.underlying t=some (.slice e)) (hc:P.cellsOf e=esz) (hz:0<esz)
  (hval:Value.okWide P W .any base t v) (hd:DataW.Trod enc P W 0 (fun _=>true) true t v d ps) (mk:α->V) (wf:α->Prop) (tl:List α->TL) (d0:α) (htl:∀l:List α,(tl l).len=l.length/\∀i,(tl l).get i=mk (ay l i d0))
  (hmk:∀y,wf y->ok (fun _=>False) (mk y)/\a8 (mk y)=false/\bI (mk y)=esz) (hop:∀n cs x,DataW.trod enc P W 0 (fun _=>true) true n e cs=some x->∃y,wf y/\cs=cells Env.zero (mk y)):
  ∃l:List α,(∀y∈l,wf y)/\oK W v esz (tl l):=
 yq ht hc hz (okWide_slice ht hval) hd mk wf tl d0 htl hmk hop
end
end Go.Sx
set_option maxRecDepth 100000
namespace Go.Proofs.Ytmfbohanboiklaa
open Go.Sx Go.ChangeShapes Go.WideShapes
theorem M7:ownKnob Try.prog.godebug=none:=by kernel_rfl
theorem K9:laidOutB Try.prog=true:=by kernel_rfl
section
variable {H:Type} {enc:TypeId×Value->H} {W:World} {base:Nat} {v:Value} {d:DataW H} {ps:List MemPlace}
end
end Go.Proofs.Ytmfbohanboiklaa
set_option maxRecDepth 100000
namespace Go.Proofs.Ytmfbohanboiklaa
open Go.Sx Go.ChangeShapes Go.WideShapes
def Nn {α:Type} (ks:List Kd) (W:α->Prop) (m:α->V):Prop:=
 (∀cs,mZ ks cs->∃x,W x/\cs=cells Env.zero (m x))/\∀x,W x->ok (fun _=>False) (m x)/\a8 (m x)=false/\bI (m x)=ks.length
theorem Lg (k:IntKind):Nn [.i k] (bG k) (V.it k):=by
 refine⟨fun cs h=>?_,fun x hx=>⟨hx,rfl,rfl⟩⟩
 match cs,h with
 | [],h=>exact h.elim
 | [a],h=>obtain⟨⟨n,rfl,hn⟩,_⟩:=h;exact⟨n,hn,rfl⟩
 |_::_::_,h=>exact h.2.elim
theorem EA:Nn DW Obj.wf V.ob:=⟨fun cs h=>H4 h,fun x hx=>⟨hx,rfl,rfl⟩⟩
section
variable {H:Type} {enc:TypeId×Value->H} {W:World} {base:Nat} {v:Value} {d:DataW H} {ps:List MemPlace}
theorem pw {α:Type} {t e:TypeId} {ks:List Kd} {wf:α->Prop} {m:α->V} (tl:List α->TL) (d0:α) (ht:Try.prog.underlying t=some (.slice e)) (hf:flatK Try.prog 8 e=some ks) (hc:Try.prog.cellsOf e=ks.length) (hz:0<ks.length) (ho:Nn ks wf m)
  (htl:∀l:List α,(tl l).len=l.length/\∀i,(tl l).get i=m (ay l i d0)) (hval:Value.okWide Try.prog W .any base t v) (hd:DataW.Trod enc Try.prog W 0 (fun _=>true) true t v d ps):
  ∃l:List α,(∀o∈l,wf o)/\oK W v ks.length (tl l):=
 A8 (esz:=ks.length) ht hc hz hval hd m wf tl d0 htl (fun y hy=>ho.2 y hy) fun n cs x hx=>ho.1 _ (pP 8 _ _ hf n cs x hx)
end
theorem F3 {J:Env} {res:List ai} {W:World} (h:aw J (fun _ _=>False) res (known res) W (fun _=>False) W) (hk:∀i,i<res.length->known res i):aw J (fun _ _=>False) (iu res) (known (iu res)) W (fun _=>False) W:=by
 have hg:∀i,ae (iu res) i=if i<res.length then .ro (ae res i)else .yet:=fun i=>by
  rw[gR,gR];unfold iu;by_cases hi:i<res.length
  ·simp[N8,hi]
  ·simp[N8,hi]
 have hkn:∀i,known (iu res) i↔i<res.length:=fun i=>by
  unfold known;rw[hg];split<;>simp_all
 refine⟨fun i hi=>hi,Nat.le_refl _,rfl,rfl,rfl,fun i hi=>?_,fun i b _ h=>h.elim,fun i j b _ _ _ h=>h.elim,fun i b _ h=>h.elim,fun _ _ _=>rfl⟩
 have hlt:=(hkn i).1 hi;rw[hg,Oa hlt];exact⟨fun _=>False,ai.kp _ (h.holds i (hk i hlt)) fun j hj=>(hkn j).2 (ak hj),fun b hb=>hb.elim⟩
theorem BS {A:List (Value×Nat×TL)}:∀i,i<(gF A).length->known (gF A) i:=fun i hi=>by
 rw[jl]at hi;unfold known;rw[kr,List.getElem?_eq_getElem hi];simp
theorem tc {l:List ai} {i:Nat} {r:ai} (h:ae l i= .ro r):known l i:=by
 unfold known;rw[h];simp
end Go.Proofs.Ytmfbohanboiklaa
