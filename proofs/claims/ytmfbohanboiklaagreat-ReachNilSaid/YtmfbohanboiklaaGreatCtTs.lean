import Derived.Test.YtmfbohanboiklaaGreatCtTo
import Derived.Test.YtmfbohanboiklaaGreatSpHs
set_option linter.unusedSimpArgs false
set_option linter.unusedVariables false
set_option maxRecDepth 100000
namespace Go.Proofs.YtmfbohanboiklaaGreat
open Go.Sx Go.Sort Go.Shelf Go.Proofs
def hI (x:T5):List Value:= [i64 x.a,i64 x.b,i64 x.c,i64 x.d,i64 x.e]
def x8 (x y:T5):Int:=vG x.key y.key
theorem FY (a x:Int):(bif a != 0 then a else x)=if a≠0 then a else x:=by
 cases h:(a != 0)with
 |true=>simp only[cond_true];rw[JY (by simpa using h)]
 |false=>simp only[cond_false];rw[JX (by simpa using h)]
theorem Du (x y:T5):zE (fq x.a y.a) (fq x.b y.b) (fq x.c y.c) (fq x.d y.d) (fq x.e y.e) 0=x8 x y:=by
 unfold zE x8 vG T5.key;simp only[bne_self_eq_false,cond_false];have e:∀a b,fq a b=eR a b:=fun _ _=>rfl
 simp only[e,show eR 0 0=0 from rfl];simp only[FY]
theorem IP (blk off size:Nat) (w:World):CmpLays Tryz.prog 54 #[] hI 5 x8 blk off size w:=fun m os dk hs x y=>by
 have h:=HK x.key y.key (sortWorldK hI 5 w blk off m dk os);refine h.mono fun e w' ⟨he,hw⟩=>⟨?_,hw⟩
 rw[he,<-Du];rfl
theorem Ju (x y:T5):ltOf x8 x y=true↔js x y:=by
 unfold ltOf x8;rw[JS,zP]
theorem Dj (x y:T5):ltOf x8 x y=false↔ ¬js x y:=by rw[<-Ju];simp
theorem I8:SWO (ltOf x8) where
 irrefl x:=by rw[Dj];exact vL x
 trans x y z h1 h2:=by rw[Ju]at *;exact mB h1 h2
 ntrans x y z h1 h2:=by rw[Dj]at *;unfold js at *;omega
theorem BG {β:Type} (F:Nat->β):∀n:Nat,(List.range (n*5)).map F=(List.range n).flatMap fun j=>(List.range 5).map fun y=>F (j*5+y)
 |0=>rfl
 |n+1=>by
  rw[show(n+1)*5=n*5+5 by omega,List.range_add,List.map_append,BG F n,List.range_succ (n:=n),List.flatMap_append]
  simp
theorem my {α β:Type} {f g:α->List β}:∀{l:List α},(∀x∈l,f x=g x)->l.flatMap f=l.flatMap g
 | [],_=>rfl
 |x::l,h=>by rw[List.flatMap_cons,List.flatMap_cons,h x (by simp),my fun y hy=>h y (by simp[hy])]
theorem tL (D:Array T5):(Go.Sort.flatK hI 5 D).toList=(TL.qs 5 (D.toList.map T5.cp)).cells:=by
 have e:(Go.Sort.flatK hI 5 D).toList=(List.range (D.size*5)).map fun t=>(hI D[t / 5]!)[t%5]! :=by
  unfold Go.Sort.flatK;rw[Array.toList_map,Array.toList_range]
 rw[e,BG];unfold TL.cells;show _=(List.range (ar (D.toList.map T5.cp))).flatMap _
 have hl:ar (D.toList.map T5.cp)=D.size:=by simp[ar]
 rw[hl];refine my fun j hj=>?_
 have hj:j<D.size:=by simpa using hj
 show _=Sx.cells Env.zero (.ag (qL (D.toList.map T5.cp) j 0 5))
 unfold Sx.cells;simp only[den,Value.cells,nA]
 have hq:(D.toList.map T5.cp).getD j []=D[j]!.cp:=by
  rw[JW,List.getElem?_map,getElem!_pos D j hj];simp[hj]
 refine List.map_congr_left fun y hy=>?_
 have hy:y<5:=by simpa using hy
 have h1:(j*5+y) / 5=j:=by omega
 have h2:(j*5+y)%5=y:=by omega
 rw[h1,h2];unfold cM;rw[hq,Nat.zero_add];unfold hI T5.cp;match y,hy with
 |0,_=>rfl
 |1,_=>rfl
 |2,_=>rfl
 |3,_=>rfl
 |4,_=>rfl
theorem Cd (F cur:Array Value) (h:F.size<=cur.size):(putCells id 0 F cur).toList.take F.size=F.toList/\(putCells id 0 F cur).size=cur.size:=by
 have hs:(putCells id 0 F cur).size=cur.size:=by unfold putCells;simp
 refine⟨List.ext_getElem? fun i=>?_,hs⟩
 rw[List.getElem?_take];by_cases hi:i<F.size
 ·rw[JY hi];unfold putCells;have hc:i<cur.size:=by omega
  simp[hi,hc]
 ·rw[JX hi];symm
  simpa using Nat.le_of_not_lt hi
theorem yf {w:World} {g e:Nat} {cur:Array Value} (hb:w.heap[g]? =some (.cells cur e (0,0))) (m:Nat) (dk:Array T5) (os:Array Go.Obj):
  (sortWorldK hI 5 w g 0 m dk os).heap[g]? =some (.cells (putCells id 0 (Go.Sort.flatK hI 5 dk) cur) e (0,0))/\(∀b,b<w.heap.size->b≠g->(sortWorldK hI 5 w g 0 m dk os).heap[b]? =w.heap[b]?)/\w.heap.size<=(sortWorldK hI 5 w g 0 m dk os).heap.size:=by
 have hg:=(Array.getElem?_eq_some_iff.1 hb).1;have e0:(sortWorldK hI 5 w g 0 m dk os).heap=(w.heap.modify g (onCells (putCells id 0 (Go.Sort.flatK hI 5 dk))))++os:=rfl;rw[e0];refine⟨?_,fun b hlt hne=>?_,by simp⟩
 ·rw[Array.getElem?_append_left (by simpa using hg),Array.getElem?_modify,JY rfl,hb];rfl
 ·rw[Array.getElem?_append_left (by simpa using hlt),Array.getElem?_modify,JX (Ne.symm hne)]
theorem CX {q M:List Cp} (h5:∀x∈q,x.length=5) (hM:∀x∈M,x∈q) (hq:∀j,j<(TL.qs 5 q).len->ok (fun _=>False) ((TL.qs 5 q).get j)):∀j,j<(TL.qs 5 M).len->ok (fun _=>False) ((TL.qs 5 M).get j)/\aP ((TL.qs 5 M).get j)=false/\bg ((TL.qs 5 M).get j)=5:=fun j hj=>by
 have hj:j<M.length:=hj;have hm:M[j]∈q:=hM _ (List.getElem_mem hj);obtain⟨i,hi,he⟩:=List.getElem_of_mem hm;have hok:=hq i hi
 have e:∀c,cM M j c=cM q i c:=fun c=>by
  have h1:M.getD j []=q.getD i []:=by rw[JW,List.getElem?_eq_getElem hj,JW,List.getElem?_eq_getElem hi,he]
  unfold cM;rw[h1]
 have e2:(TL.qs 5 M).get j=(TL.qs 5 q).get i:=congrArg V.ag (pJ e 5 0);rw[e2];refine⟨hok,rfl,?_⟩;show jr (qL q i 0 5)=5
 exact wB _ _
theorem DW:qX Tryz.prog 74 zX:=by
 intro args res K KP hh;unfold zX at hh;split at hh
 case h_2=>exact hh.elim
 split at hh
 case h_2=>exact hh.elim
 rename_i k;split at hh
 case h_2=>exact hh.elim
 rename_i g hg;have hg:=yW hg;subst hg;split at hh
 case h_2=>exact hh.elim
 rename_i own esz t hr;split at hh
 case h_2=>exact hh.elim
 rename_i e;split at hh
 case h_2=>exact hh.elim
 rename_i n q;split at hh
 case isFalse=>exact hh.elim
 rename_i hc;simp only[JR,JT]at hc;obtain⟨⟨rfl,rfl⟩,rfl⟩:=hc;obtain⟨⟨hnd,h5,hsm⟩,hK⟩:=hh;intro J fps w0 F0 w hH hargs;have hk:known res k:=by unfold known;rw[hr];simp
 have hho:=hH.holds k hk;rw[hr]at hho;obtain⟨c1,c2,c3,c4,c5,c6,c7⟩:=hho;rcases c7 with⟨c7,_⟩|⟨e',ce,hrow,hfp⟩
 ·simp at c7
 have ce:=ce e rfl;subst ce;have hlen:(TL.qs 5 q).len=q.length:=rfl;obtain⟨s1,s2⟩:=ko h5 hnd;have hMlen:(kg q).length=q.length:=s2.length_eq
 have hcell:(TL.qs 5 q).cells=(Go.Sort.flatK hI 5 (q.map fe).toArray).toList:=by
  rw[tL]
  have:(q.map fe).toArray.toList.map T5.cp=q:=by
   rw[List.map_map];conv=>rhs;rw[<-List.map_id q]
   exact List.map_congr_left fun x hx=>xg (h5 x hx)
  rw[this]
 have hel:=CX h5 (fun x hx=>s2.mem_iff.1 hx) fun j hj=>(c1 j hj).1
 have fin:∀w',w'.os=w.os->w'.tape=w.tape->w'.output=w.output->w.heap.size<=w'.heap.size->(∀b,b<w.heap.size->¬fps k b->w'.heap[b]? =w.heap[b]?)->w'.ownsRow 0 e 5 (J.sl k) q.length (TL.qs 5 (kg q)).cells->
   ∃x ρ' fps' res',an ρ' fps' res' (known res') w0 F0 w'/\Sx.Good J res ρ' res'/\ok (known res') x/\(.returned (.tuple #[])=Ending.returned (den ρ' x)/\K x res'):=fun w' a1 a2 a3 a4 a5 a6=>by
  obtain⟨fps',f1,f2,f3⟩:=hH.o0 (ρ':=J) (w':=w') [] k (.arr (some e) 5 (.qs 5 (kg q))) [] (fps k) (by simp) (by simp) hk (by simp) (by simp) (Env.agree.refl _ _)
   ⟨hel,by rw[c2,hlen,<-hMlen];rfl,by show(kg q).length<=_;rw[hMlen];exact c3,c4,fun h=>c5 (by show 0<q.length;rw[<-hMlen];exact h),fun h=>c6 (by show 0<q.length;rw[<-hMlen];exact h),.inr ⟨e,by simp,by
    show w'.ownsRow 0 e 5 (J.sl k) (kg q).length _
    rw[hMlen];exact a6,hfp⟩⟩
   (fun b hb=> .inl hb) a1 a2 a3 a4 (fun b hb hn _=>a5 b hb hn)
  have hres:aL [] (aG res k (.arr (some e) 5 (.qs 5 (kg q))))++ []=aG res k (.arr (some e) 5 (.qs 5 (kg q))):=by rw[List.append_nil];rfl
  rw[hres]at f1 f3;exact⟨.tp [],J,fps',_,f1,⟨f2,f3⟩,trivial,rfl,hK⟩
 have hargs':(aw J [.sa k,.fn 54 []]).toArray= #[J.sl k,.func (.func 54) #[] #[]]:=rfl;rw[hargs'];rcases hrow.2 with⟨hv,hn0⟩|⟨g,cap,cur,hv,_,hgc,hnc,hcm,hcs,htk⟩
 ·have hq0:q= []:=List.length_eq_zero_iff.1 hn0;rw[hv];refine ER ((AnyF.slices_SortFunc_none Ar none 0 _ w).mono fun en w' ⟨he,hw⟩=>?_)
  subst hw
  obtain⟨x,ρ',fps',res',f1,f2,f3,f4,f5⟩:=fin w' rfl rfl rfl (Nat.le_refl _) (fun _ _ _=>rfl) (by
   have:kg q=q:=by rw[hq0];rfl
   rw[this];exact hrow)
  exact⟨x,ρ',fps',res',f1,f2,f3,.inl ⟨by rw[he,f4],f5⟩⟩
 ·rw[hv]
  have hfg:fps k g:=by
   have hsa:J.sa k=some ⟨g,0,none⟩:=by
    have:Value.slice (J.sa k) (J.sn k) (J.cap k)= .slice (some ⟨g,0,none⟩) (TL.qs 5 q).len cap:=hv;simp only[Value.slice.injEq]at this;exact this.1
   exact hfp _ hsa
  have hds:(q.map fe).toArray.size=q.length:=by simp
  have hFs:(Go.Sort.flatK hI 5 (q.map fe).toArray).size=q.length*5:=by rw[size_flatK,hds]
  have hle:q.length*5<=cur.size:=by rw[hcs];exact Nat.mul_le_mul_right _ hnc
  have hH5:HoldsK hI 5 w g 0 (q.map fe).toArray:=fun j hj=>by
   rw[hFs]at hj;refine⟨?_,?_⟩
   ·unfold World.cell?;simp only[Nat.zero_add,hgc]
    have h1:cur[j]? =(Go.Sort.flatK hI 5 (q.map fe).toArray)[j]? :=by
     have h2:(cur.toList.take (q.length*5))[j]? =(Go.Sort.flatK hI 5 (q.map fe).toArray).toList[j]? :=by
      rw[<-hcell,<-htk];rfl
     rw[List.getElem?_take,JY hj]at h2;simpa using h2
    simp only[Option.isSome_none,Bool.false_eq_true,if_false,h1,id];rw[getElem!_pos _ j (by rw[hFs];exact hj),Array.getElem?_eq_getElem]
   ·unfold World.frozen?;simp[hgc]
  have hlt:=(Array.getElem?_eq_some_iff.1 hgc).1
  have hcon:=AnyQ.slices_SortFunc_total Ar 5 (Tryz.isAgg74) (Tryz.sizeOf74) hI (fun _=>rfl) (fun x v hv=>by simp[hI,i64]at hv;rcases hv with rfl|rfl|rfl|rfl|rfl<;>rfl) x8 I8 54 #[] g 0 cap (q.map fe).toArray w
   (enters_of Tryz.func54 (by kernel_rfl) rfl) (IP g 0 _ w) hH5 hlt (by rw[hds];omega) (fun x y h1 h2=>by rw[Dj]at h1 h2;exact mD h1 h2)
  rw[hds]at hcon;refine ER (hcon.mono fun en w' ⟨he,m,os,hw⟩=>?_)
  have hmg:=yq h5 hnd (fun x y=> !(ltOf x8) y x) (fun x y=>by rw[Bool.not_eq_true',Dj])
  have hdl:(q.map fe).toArray.toList=q.map fe:=rfl;rw[hdl]at hw;obtain⟨k1,k2,k3⟩:=yf hgc m ((q.map fe).mergeSort fun x y=> !(ltOf x8) y x).toArray os
  have hms:((q.map fe).mergeSort fun x y=> !(ltOf x8) y x).toArray.size=q.length:=by simp[List.length_mergeSort]
  have hF2:(Go.Sort.flatK hI 5 ((q.map fe).mergeSort fun x y=> !(ltOf x8) y x).toArray).size=q.length*5:=by rw[size_flatK,hms]
  obtain⟨t1,t2⟩:=Cd (Go.Sort.flatK hI 5 ((q.map fe).mergeSort fun x y=> !(ltOf x8) y x).toArray) cur (by rw[hF2];exact hle)
  obtain⟨x,ρ',fps',res',f1,f2,f3,f4,f5⟩:=fin w' (by rw[hw];rfl) (by rw[hw];rfl) (by rw[hw];rfl) (by rw[hw];exact k3) (fun b hb hn=>by
    rw[hw];exact k2 b hb fun e=>hn (e▸hfg)) (by
   refine⟨?_,.inr ⟨g,cap,_,hv,Nat.zero_le _,by rw[hw];exact k1,hnc,hcm,by rw[t2];exact hcs,?_⟩⟩
   ·rw[<-hmg,<-hF2];have:=congrArg List.length (tL ((q.map fe).mergeSort fun x y=> !(ltOf x8) y x).toArray)
    simp only[Array.length_toList]at this;exact this.symm
   ·rw[<-hF2,t1,tL,<-hmg])
  exact⟨x,ρ',fps',res',f1,f2,f3,.inl ⟨by rw[he,f4],f5⟩⟩
end Go.Proofs.YtmfbohanboiklaaGreat
