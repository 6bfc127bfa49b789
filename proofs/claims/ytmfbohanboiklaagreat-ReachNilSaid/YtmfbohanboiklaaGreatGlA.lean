import Derived.Test.YtmfbohanboiklaaGreatSxF
import Derived.OpenShut
import Derived.Deep.Slices
import Derived.ChangeArms
import Derived.ChangeSame
import Derived.ChangeBook
import Derived.RowKit
import Derived.ProofKit
import Derived.ChangeMaps5
set_option linter.unusedSimpArgs false
set_option linter.unusedVariables false
namespace Go.Sx
open Go.ChangeShapes Go.WideShapes
def Kd.JB:Kd->Value->Prop
 | .b,v=>∃x,v= .bool x
 | .s,v=>∃x:ByteArray,v= .string x/\x.size<=maxLen
 | .i k,v=>∃n,v= .int k n/\br k n
def oN:List Kd->List Value->Prop
 | [],[]=>True
 |k::ks,v::vs=>k.JB v/\oN ks vs
 |_,_=>False
theorem oN.length:∀{ks:List Kd} {vs:List Value},oN ks vs->vs.length=ks.length
 | [],[],_=>rfl
 |_::_,_::_,h=>by simp[oN.length h.2]
 | [],_::_,h=>h.elim
 |_::_,[],h=>h.elim
theorem oN.split:∀{a b:List Kd} {vs:List Value},oN (a++b) vs->oN a (vs.take a.length)/\oN b (vs.drop a.length)
 | [],b,vs,h=>by simpa[oN]using h
 |k::a,b,[],h=>h.elim
 |k::a,b,v::vs,h=>by
  obtain⟨h1,h2⟩:=oN.split (a:=a) h.2;exact⟨by simpa[oN]using⟨h.1,h1⟩,by simpa using h2⟩
theorem oN.join:∀{a b:List Kd} {vs us:List Value},oN a vs->oN b us->oN (a++b) (vs++us)
 | [],_,[],_,_,h=>by simpa using h
 |k::a,_,v::vs,_,h,h'=>⟨h.1,oN.join h.2 h'⟩
 | [],_,_::_,_,h,_=>h.elim
 |_::_,_,[],_,h,_=>h.elim
theorem AB {k:IntKind} {n:Int} (h:(Lit.int k n).wf=true):br k n:=by
 cases k<;>simp[Lit.wf,IntKind.min,IntKind.max,IntKind.signed,IntKind.bits]at h<;>simp only[br]<;>omega
theorem qM {α:Type} {l:List α} {c n:Nat} (h:(l.take c).length=n):l.take c=l.take n:=by
 rw[List.length_take]at h;rcases Nat.le_total c l.length with hc|hc
 ·rw[Nat.min_eq_left hc]at h;rw[h]
 ·rw[Nat.min_eq_right hc]at h;rw[List.take_of_length_le hc,List.take_of_length_le (by omega)]
section
variable {H:Type} {enc:TypeId×Value->H} {P:Program} {w:World} {base:Nat} {sp:Nat->Bool} {held:Bool}
theorem j5 {t n:Nat} (h:gz P t=some n):P.cellsOf t=n:=by
 unfold gz at h;unfold Program.cellsOf;rw[h];rfl
theorem oq {m f:Nat} (ih:∀t ks,flatK P f t=some ks->∀cs x,DataW.trod enc P w base sp held m t cs=some x->oN ks cs) (cs:List Value):∀(fs:List Field) (off:Nat) (ks:List Kd),ff (flatK P f) off fs=some ks->
  (∀g∈fs,∃x,DataW.trod enc P w base sp held m g.type ((cs.drop g.offset).take (P.cellsOf g.type))=some x)->oN ks ((cs.drop off).take ks.length)
 | [],off,ks,h,_=>by
   simp only[ff,JP]at h;subst h;simp[oN]
 |g::fs,off,ks,h,hx=>by
  simp only[ff]at h;split at h
  ·rename_i hc;simp only[JR,bne_iff_ne,ne_eq,JT]at hc;obtain⟨hn,ho⟩:=hc;cases hg:flatK P f g.type with
   |none=>simp[hg]at h
   |some k1=>
    simp only[hg]at h;cases hr:ff (flatK P f) (off+k1.length) fs with
    |none=>simp[hr]at h
    |some k2=>
     simp only[hr,Option.map_some,JP]at h;subst h;obtain⟨x,hx1⟩:=hx g (by simp)
     have t1:=ih _ _ hg _ _ hx1;have hl:=t1.length;rw[qM hl,ho]at t1;have t2:=oq ih cs fs (off+k1.length) k2 hr fun g' hg'=>hx g' (by simp[hg'])
     have:(cs.drop off).take (k1++k2).length=(cs.drop off).take k1.length++(cs.drop (off+k1.length)).take k2.length:=by
      rw[List.length_append,List.take_add,List.drop_drop]
     rw[this];exact t1.join t2
  ·simp at h
theorem nW:∀(f:Nat) (t:TypeId) (ks:List Kd),flatK P f t=some ks->∀(fuel:Nat) (cs:List Value) (x:DataW H×List MemPlace),DataW.trod enc P w base sp held fuel t cs=some x->oN ks cs
 |0,_,_,h,_,_,_,_=>by simp[flatK]at h
 |f+1,t,ks,h,fuel,cs,x,hx=>by
  simp only[flatK]at h;split at h
  ·rename_i hu;simp only[JP]at h;subst h;obtain⟨b,rfl,_⟩:=DataW.trod_bool hu hx;exact⟨⟨b,rfl⟩,trivial⟩
  ·rename_i hu;simp only[JP]at h;subst h;obtain⟨b,rfl,_,hb⟩:=DataW.trod_string hu hx;exact⟨⟨b,rfl,hb⟩,trivial⟩
  ·rename_i k hu;simp only[JP]at h;subst h;obtain⟨n,rfl,_,hw⟩:=DataW.trod_int hu hx;exact⟨⟨n,rfl,AB hw⟩,trivial⟩
  ·rename_i fs hu;split at h
   ·simp at h
   ·split at h
    ·simp at h
    ·rename_i ks' hfs;split at h
     ·rename_i hs;have hs:=JT.1 hs;simp only[JP]at h;subst h;obtain⟨xs,n,rfl,_,hl,hxl,hall⟩:=DataW.trod_struct hu hx
      have:=oq (fun t ks h cs x hx=>nW f t ks h n cs x hx) cs fs.toList 0 ks' hfs fun g hg=>by
       obtain⟨i,hi,hgi⟩:=List.getElem_of_mem hg;have hfi:fs[i]? =some g:=by rw[<-Array.getElem?_toList,List.getElem?_eq_getElem hi,hgi]
       have:=hall i g hfi;rw[List.getElem?_eq_getElem (by rw[hxl];simpa using hi)]at this
       exact⟨_,this⟩
      rw[j5 hs]at hl;rw[List.drop_zero,<-hl,List.take_length]at this;exact this
     ·simp at h
  ·rename_i n e hu;split at h
   ·simp at h
   ·rename_i k1 he;split at h
    ·rename_i hs;simp only[JR,JT]at hs;simp only[JP]at h;subst h;obtain⟨xs,m,rfl,_,hl,hxl,hall⟩:=DataW.trod_array hu hx;rw[j5 hs.2]at hl;rw[j5 hs.1]at hall
     have key:∀j,j<=n->oN (List.replicate j k1).flatten (cs.take (j*k1.length)):=by
      intro j;induction j with
      |zero=>intro _;simp[oN]
      |succ j ihj=>
       intro hj;have h1:=ihj (by omega)
       have h2:=hall j (by omega)
       rw[List.getElem?_eq_getElem (by omega)]at h2
       have h3:=nW f e k1 he m _ _ h2;rw[List.replicate_succ',List.flatten_append,Nat.succ_mul,List.take_add];simpa using h1.join h3
     have:=key n (Nat.le_refl _);rwa [<-hl,List.take_length]at this
    ·simp at h
  ·simp at h
end
end Go.Sx
namespace Go.Sx
open Go.RowKit (Below)
open Go.ChangeShapes Go.WideShapes
section
variable {H:Type} {enc:TypeId×Value->H} {P:Program}
theorem zx {f:Nat} {vs:List V} {res:List ae} (h:ah P f vs res (sq (.bo true)) (fun _ _=>False)) {J:Env} {W:World} (hH:an J (fun _ _=>False) res (known res) W (fun _=>False) W) (hok:bH (known res) vs):
  Calls P f (aw J vs).toArray W fun e W'=>e= .returned (.bool true)/\Below W.heap.size W W':=
 (Fo (h J _ W _ W hH hok)).mono fun e W' ⟨x,ρ',fps',res',g1,g2,g3,g4⟩=>by
  rcases g4 with⟨rfl,hK⟩|⟨_,hK⟩
  ·obtain⟨e1,_,_⟩:=cI hK ρ' (known res');refine⟨by rw[e1];rfl,g1.os,g1.tape,g1.output,g1.old,fun b hb=>g1.same b hb (fun h=>h)⟩
  ·exact hK.elim
theorem lj {W W':World} (hB:Below W.heap.size W W') (hl:laidOutB P=true):∀{ts:List TypeId} {vs:List Value} {ds:List (DataW H)} {p:List MemPlace},
  (∀t∈ts,P.readableRec t=true/\t<P.types.size)->DataW.TrodAll enc P W 0 (fun _=>true) true ts vs ds p->(∀q∈p,q.block<W.heap.size)->∀sp:Nat->Bool,(∀q∈p,sp q.block=true)->DataW.TrodAll enc P W' 0 sp true ts vs ds p
 | [],vs,ds,p,_,h,_,sp,_=>by
   obtain⟨rfl,rfl,rfl⟩:=trodAll_nil h;exact trodAll_mk0
 |t::ts,vs,ds,p,hr,h,hlt,sp,hsp=>by
  obtain⟨v,vs',d,ds',p1,q1,rfl,rfl,rfl,⟨n,h1⟩,h2⟩:=trodAll_cons h;obtain⟨r1,r2⟩:=hr t (by simp)
  refine trodAll_cons_mk ⟨n,?_⟩ (lj hB hl (fun t ht=>hr t (by simp[ht])) h2 (fun q hq=>hlt q (List.mem_append_right _ hq)) sp fun q hq=>hsp q (List.mem_append_right _ hq))
  exact DataW.trod_stays (kids_book hl r1) (book_sized r1) (fun h=>by cases h) ⟨r2,book_self t⟩ h1 (fun q hq=>hB.same (hlt q (List.mem_append_left _ hq))) fun q hq=>hsp q (List.mem_append_left _ hq)
theorem AR {f:Func} {s:ChangeSpec} {apart fresh handsOn again:Bool} {W W':World} {args:Array Value} {ds gs:List (DataW H)} {before:List MemPlace} {tb:TypeId}
  (hW:DataW.Whole enc P f.params.toList s.vars apart W args.toList ds gs before) (hvars:s.vars= []) (hB:Below W.heap.size W W') (hl:laidOutB P=true)
  (hr:∀t∈f.params.toList,P.readableRec t=true/\t<P.types.size) (hrt:f.resultTypes= #[tb]) (htb:P.underlying tb=some .bool)
  (hs:(s.fn H (ds++gs)).results= [.lit (.bool true)]/\(s.fn H (ds++gs)).args=ds/\(s.fn H (ds++gs)).vars= []):s.post enc P f apart fresh handsOn again W args (.bool true) W':=by
 have hW':=hW;have hlt:=hW.lt;obtain⟨pa,pv,hA,hV,hps,hz,hn⟩:=hW;rw[hvars]at hV;obtain⟨rfl,rfl⟩:=trodVars_none hV;rw[List.append_nil]at hps;subst hps;have hag:∀sp:Nat->Bool,(∀q∈before,sp q.block=true)->DataW.TrodAll enc P W' 0 sp true f.params.toList args.toList ds before:=fun sp hsp=>lj hB hl hr hA hlt sp hsp
 have hres:∀(b:Nat) (sp:Nat->Bool) (hd:Bool),DataW.TrodAll enc P W' b sp hd f.resultTypes.toList ((Value.bool true).resultList f.resultTypes.size) [.lit (.bool true)] []:=fun b sp hd=>by
  rw[hrt];exact trodAll_mk1 (RowKit.shut_bool htb true)
 have hok:∀(j:Nat) (t:TypeId) (r:Value),f.resultTypes[j]? =some t->((Value.bool true).resultList f.resultTypes.size)[j]? =some r->Value.okWide P W' .any 0 t r:=RowKit.ok_one hrt rfl (RowKit.okWide_bool_mk htb true);refine⟨ds,[],before,[],before,[],hW',by rw[hs.1];exact hres _ _ _,?_,?_,hB.frame _,fun _=>⟨hok,?_⟩⟩
 ·rw[hs.2.1];exact hag _ fun q hq=>by simpa using hlt q hq
 ·rw[hvars,hs.2.2];rfl
 ·refine⟨[.lit (.bool true)]++ds,[],before,⟨[]++before,[],trodAll_append (hag _ fun _ _=>rfl) (hres _ _ _),by rw[hvars];rfl,by simp,fun b off hp=>?_,hn⟩,fun p hp _=>hp⟩
  have:=hz b off hp;rw[hB.frozen (p:=⟨b,off,none⟩) (hlt _ hp)];exact this
def ED (w:World) (v:Value) (esz:Nat) (l:TL):Prop:=
 (∀j,j<l.len->ok (fun _=>False) (l.get j)/\aP (l.get j)=false/\bg (l.get j)=esz)/\l.len<=9223372036854775807/\
 ∃(sa:Option Addr) (cap:Nat),v= .slice sa l.len cap/\(0<l.len->∃a,sa=some a/\a.spot=none/\a.block<w.heap.size/\∀j,j<l.len->∀k,k<esz->w.cell? ⟨a.block,a.off+(j*esz+k),none⟩=(cells Env.zero (l.get j))[k]?)
def H3:Value->Option Addr
 | .slice a _ _=>a
 |_=>none
def Jg:Value->Nat
 | .slice _ n _=>n
 |_=>0
def Jy:Value->Nat
 | .slice _ _ c=>c
 |_=>0
def nH (A:List (Value×Nat×TL)):Env:=
 {num:=fun _=>0,cap:=fun i=>Jy (A.getD i (.slice none 0 0,0,.bo [])).1,adr:=fun i=>(H3 (A.getD i (.slice none 0 0,0,.bo [])).1).getD ⟨0,0,none⟩,sa:=fun i=>H3 (A.getD i (.slice none 0 0,0,.bo [])).1,
  sn:=fun i=>Jg (A.getD i (.slice none 0 0,0,.bo [])).1,ob:=fun _ _=>0}
def gl:List (Value×Nat×TL)->List ae
 | []=> []
 |a::l=> .arr none a.2.1 a.2.2::gl l
theorem lH:∀(A:List (Value×Nat×TL)) (i:Nat),aa (gl A) i=match A[i]? with|some a=> .arr none a.2.1 a.2.2|none=> .yet
 | [],i=>by simp[gl,aa]
 |a::l,0=>by simp[gl,aa]
 |a::l,i+1=>by simp[gl,aa,lH l i]
theorem gZ:∀A:List (Value×Nat×TL),(gl A).length=A.length
 | []=>rfl
 |a::l=>by simp[gl,gZ l]
theorem AG {A:List (Value×Nat×TL)} {W:World} (h:∀a∈A,ED W a.1 a.2.1 a.2.2):an (nH A) (fun _ _=>False) (gl A) (known (gl A)) W (fun _=>False) W:=by
 refine⟨fun i hi=>hi,Nat.le_refl _,rfl,rfl,rfl,fun i hi=>?_,fun i b _ h=>h.elim,fun i j b _ _ _ h=>h.elim,fun i b _ h=>h.elim,fun _ _ _=>rfl⟩
 have hlt:=ai hi;rw[gZ]at hlt;have hA:A[i]? =some A[i]:=List.getElem?_eq_getElem hlt;have hh:=h A[i] (List.getElem_mem hlt);generalize A[i]=a at hA hh
 rw[lH,hA];simp only;obtain⟨h1,h2,sa,cap,h3,h4⟩:=hh;have hd:A.getD i (.slice none 0 0,0,.bo [])=a:=by rw[JW,hA];rfl
 have e1:(nH A).sa i=sa:=by show H3 (A.getD i _).1=sa;rw[hd,h3];rfl
 have e2:(nH A).sn i=a.2.2.len:=by show Jg (A.getD i _).1=_;rw[hd,h3];rfl
 have e3:(nH A).adr i=sa.getD ⟨0,0,none⟩:=by show(H3 (A.getD i _).1).getD _=_;rw[hd,h3];rfl
 refine⟨h1,e2,h2,fun x hx=>?_,fun hl=>?_,fun hl=>?_,.inl ⟨rfl,fun hl=>?_,fun j hj k hk=>?_⟩⟩
 ·rw[e1]at hx;rw[e3,hx];rfl
 ·obtain⟨x,rfl,_⟩:=h4 hl;rw[e1];rfl
 ·obtain⟨x,rfl,g,_⟩:=h4 hl;rw[e3];exact g
 ·obtain⟨x,rfl,_,g,_⟩:=h4 hl;exact⟨fun h=>h,by rw[e3];exact g⟩
 ·obtain⟨x,rfl,_,_,g⟩:=h4 (by omega)
  have:=g j hj k hk;rw[e3];simp only[Option.getD_some];rw[this,aQ (N:=fun _=>False) (J:=Env.zero) (ρ':=nH A) (fun _ h=>h.elim) _ (h1 j hj).1]
end
end Go.Sx
set_option maxRecDepth 100000
namespace Go.Proofs.YtmfbohanboiklaaGreat
open Go.Sx Go.ChangeShapes Go.WideShapes
theorem Ir:ownKnob Tryz.prog.godebug=none:=by kernel_rfl
theorem G8:laidOutB Tryz.prog=true:=by kernel_rfl
section
variable {H:Type} {enc:TypeId×Value->H} {W:World} {base:Nat} {v:Value} {d:DataW H} {ps:List MemPlace}
end
end Go.Proofs.YtmfbohanboiklaaGreat
set_option maxRecDepth 100000
namespace Go.Proofs.YtmfbohanboiklaaGreat
open Go.Sx Go.ChangeShapes Go.WideShapes
def Dt {α:Type} (ks:List Kd) (W:α->Prop) (m:α->V):Prop:=
 (∀cs,oN ks cs->∃x,W x/\cs=cells Env.zero (m x))/\∀x,W x->ok (fun _=>False) (m x)/\aP (m x)=false/\bg (m x)=ks.length
def C4 {α:Type} (ks:List Kd) (W:α->Prop) (m:α->List V):Prop:=
 (∀cs,oN ks cs->∃x,W x/\cs=aq Env.zero (m x))/\∀x,W x->bH (fun _=>False) (m x)/\ni (m x)/\jr (m x)=ks.length
theorem ux:C4 [] (fun _:Unit=>True) (fun _=> []):=by
 refine⟨fun cs h=>?_,fun _ _=>⟨trivial,trivial,rfl⟩⟩
 cases cs with
 |nil=>exact⟨(),trivial,rfl⟩
 |cons a l=>exact h.elim
theorem cA {α β:Type} {ks1 ks2:List Kd} {W1:α->Prop} {W2:β->Prop} {m1:α->V} {m2:β->List V} (h1:Dt ks1 W1 m1) (h2:C4 ks2 W2 m2):C4 (ks1++ks2) (fun x:α×β=>W1 x.1/\W2 x.2) (fun x=>m1 x.1::m2 x.2):=by
 refine⟨fun cs h=>?_,fun x hx=>?_⟩
 ·obtain⟨g1,g2⟩:=oN.split h;obtain⟨a,a1,a2⟩:=h1.1 _ g1;obtain⟨b,b1,b2⟩:=h2.1 _ g2;refine⟨(a,b),⟨a1,b1⟩,?_⟩;have e:aq Env.zero (m1 a::m2 b)=cells Env.zero (m1 a)++aq Env.zero (m2 b):=rfl;show cs=aq Env.zero (m1 a::m2 b)
  rw[e,<-a2,<-b2,List.take_append_drop]
 ·obtain⟨a1,a2,a3⟩:=h1.2 x.1 hx.1;obtain⟨b1,b2,b3⟩:=h2.2 x.2 hx.2;refine⟨⟨a1,b1⟩,⟨?_,b2⟩,?_⟩
  ·cases hm:m1 x.1<;>rw[hm]at a2<;>first|trivial|simp[aP]at a2
  ·show bg (m1 x.1)+jr (m2 x.2)=_
   rw[a3,b3,List.length_append]
theorem BT {α:Type} {ks:List Kd} {W:α->Prop} {m:α->List V} (h:C4 ks W m):Dt ks W (fun x=> .ag (m x)):=
 ⟨fun cs hc=>by
  obtain⟨x,h1,h2⟩:=h.1 cs hc;exact⟨x,h1,by rw[h2];simp[cells,den,Value.cells]⟩,fun x hx=>⟨⟨(h.2 x hx).1,(h.2 x hx).2.1⟩,rfl,(h.2 x hx).2.2⟩⟩
theorem DF {α β:Type} {ks:List Kd} {W:α->Prop} {m:α->V} {m':β->V} (h:Dt ks W m) (f:α->β) (g:β->α) (hm:∀y,m' y=m (g y)) (hfg:∀x,g (f x)=x):Dt ks (fun y=>W (g y)) m':=by
 refine⟨fun cs hc=>?_,fun y hy=>?_⟩
 ·obtain⟨x,h1,h2⟩:=h.1 cs hc;exact⟨f x,by show W (g (f x));rw[hfg];exact h1,by rw[hm,hfg];exact h2⟩
 ·rw[hm];exact h.2 _ hy
theorem mE (k:IntKind):Dt [.i k] (br k) (V.it k):=by
 refine⟨fun cs h=>?_,fun x hx=>⟨hx,rfl,rfl⟩⟩
 match cs,h with
 | [],h=>exact h.elim
 | [a],h=>obtain⟨⟨n,rfl,hn⟩,_⟩:=h;exact⟨n,hn,rfl⟩
 |_::_::_,h=>exact h.2.elim
theorem GM:Dt [.b] (fun _=>True) V.bo:=by
 refine⟨fun cs h=>?_,fun x hx=>⟨trivial,rfl,rfl⟩⟩
 match cs,h with
 | [],h=>exact h.elim
 | [a],h=>obtain⟨⟨n,rfl⟩,_⟩:=h;exact⟨n,trivial,rfl⟩
 |_::_::_,h=>exact h.2.elim
theorem HF:Dt [.s] (fun s:ByteArray=>(s.size:Int)<=9223372036854775807) V.st:=by
 refine⟨fun cs h=>?_,fun x hx=>⟨trivial,rfl,rfl⟩⟩
 match cs,h with
 | [],h=>exact h.elim
 | [a],h=>
   obtain⟨⟨n,rfl,hn⟩,_⟩:=h;refine⟨n,?_,rfl⟩;simp only[maxLen]at hn;omega
 |_::_::_,h=>exact h.2.elim
section
variable {H:Type} {enc:TypeId×Value->H} {W:World} {base:Nat} {v:Value} {d:DataW H} {ps:List MemPlace}
theorem Bj {α:Type} {t:TypeId} {fs:Array Field} {ks:List Kd} {wf:α->Prop} {m:α->V} (ht:Tryz.prog.underlying t=some (.struct fs)) (hf:flatK Tryz.prog 8 t=some ks) (ho:Dt ks wf m) (hag:∀x,dE (m x)=true)
  (hval:Value.okWide Tryz.prog W .any base t v) (hd:DataW.Trod enc Tryz.prog W 0 (fun _=>true) true t v d ps):∃o:α,wf o/\∀J,v=den J (m o):=by
 unfold Value.okWide at hval;rw[ht]at hval;obtain⟨cs,rfl,_⟩:=hval;obtain⟨n,hx⟩:=hd;obtain⟨o,h1,h2⟩:=ho.1 _ (nW 8 _ _ hf n _ _ hx);refine⟨o,h1,fun J=>?_⟩
 have hk:=ho.2 o h1;have hcs:(Value.agg cs).cells.toList=cs.toList:=rfl;rw[hcs]at h2;rw[fM J hk.1 hk.2.1,hag,aQ (N:=fun _=>False) (J:=Env.zero) (ρ':=J) (fun _ h=>h.elim) _ hk.1,<-h2]
 simp[dD]
theorem Ee {t:TypeId} {k:IntKind} (ht:Tryz.prog.underlying t=some (.int k)) (hval:Value.okWide Tryz.prog W .any base t v) (hd:DataW.Trod enc Tryz.prog W 0 (fun _=>true) true t v d ps):∃n:Int,br k n/\v= .int k n:=by
 obtain⟨n,h1,_,_,h2⟩:=open_int ht hval hd;exact⟨n,AB h2,h1⟩
end
theorem CD {J:Env} {res:List ae} {W:World} (h:an J (fun _ _=>False) res (known res) W (fun _=>False) W) (hk:∀i,i<res.length->known res i):an J (fun _ _=>False) (iq res) (known (iq res)) W (fun _=>False) W:=by
 have hg:∀i,aa (iq res) i=if i<res.length then .ro (aa res i)else .yet:=fun i=>by
  rw[fH,fH];unfold iq;by_cases hi:i<res.length
  ·simp[JW,hi]
  ·simp[JW,hi]
 have hkn:∀i,known (iq res) i↔i<res.length:=fun i=>by
  unfold known;rw[hg];split<;>simp_all
 refine⟨fun i hi=>hi,Nat.le_refl _,rfl,rfl,rfl,fun i hi=>?_,fun i b _ h=>h.elim,fun i j b _ _ _ h=>h.elim,fun i b _ h=>h.elim,fun _ _ _=>rfl⟩
 have hlt:=(hkn i).1 hi;rw[hg,JY hlt];exact⟨fun _=>False,ae.iY _ (h.holds i (hk i hlt)) fun j hj=>(hkn j).2 (ai hj),fun b hb=>hb.elim⟩
theorem zt {A:List (Value×Nat×TL)}:∀i,i<(gl A).length->known (gl A) i:=fun i hi=>by
 rw[gZ]at hi;unfold known;rw[lH,List.getElem?_eq_getElem hi];simp
end Go.Proofs.YtmfbohanboiklaaGreat
