import Derived.Test.YtmfbohanboiklaaGreatDoorCtTo
import Derived.Test.YtmfbohanboiklaaGreatDoorSpHs
set_option linter.unusedSimpArgs false
set_option linter.unusedVariables false
set_option maxRecDepth 100000
namespace Go.Proofs.YtmfbohanboiklaaGreatDoor
open Go.Sx Go.Sort Go.Shelf Go.Proofs
def iX(x:T5):List Value:= [i64 x.a,i64 x.b,i64 x.c,i64 x.d,i64 x.e]
def zq(x y:T5):Int:=wR x.key y.key
theorem Im(a x:Int):(bif a != 0 then a else x)=if a≠0 then a else x:=by
 cases h:(a != 0)with
 |true=>simp only[cond_true];rw[au (by simpa using h)]
 |false=>simp only[cond_false];rw[ar (by simpa using h)]
theorem E5(x y:T5):A9 (gh x.a y.a) (gh x.b y.b) (gh x.c y.c) (gh x.d y.d) (gh x.e y.e) 0=zq x y:=by
 unfold A9 zq wR T5.key;simp only[bne_self_eq_false,cond_false];have e:∀a b,gh a b=fG a b:=fun _ _=>rfl
 simp only[e,show fG 0 0=0 from rfl];simp only[Im]
theorem LI(blk off size:Nat)(w:World):CmpLays Tryz.prog 42 #[] iX 5 zq blk off size w:=fun m os dk hs x y=>by
 have h:=Jq x.key y.key (sortWorldK iX 5 w blk off m dk os);refine h.mono fun e w' ⟨he,hw⟩=>⟨?_,hw⟩
 rw[he,<-E5];rfl
theorem LU(x y:T5):ltOf zq x y=true↔km x y:=by
 unfold ltOf zq;rw[ai,CW]
theorem E9(x y:T5):ltOf zq x y=false↔ ¬km x y:=by rw[<-LU];simp
theorem Ly:SWO (ltOf zq) where
 irrefl x:=by rw[E9];exact xZ x
 trans x y z h1 h2:=by rw[LU]at *;exact oz h1 h2
 ntrans x y z h1 h2:=by rw[E9]at *;unfold km at *;omega
theorem Dj{β:Type}(F:Nat->β):∀n:Nat,(List.range (n*5)).map F=(List.range n).flatMap fun j=>(List.range 5).map fun y=>F (j*5+y)
 |0=>rfl
 |n+1=>by
  rw[show(n+1)*5=n*5+5 by omega,List.range_add,List.map_append,Dj F n,List.range_succ (n:=n),List.flatMap_append]
  simp
theorem nE{α β:Type}{f g:α->List β}:∀{l:List α},(∀x∈l,f x=g x)->l.flatMap f=l.flatMap g
 | [],_=>rfl
 |x::l,h=>by rw[List.flatMap_cons,List.flatMap_cons,h x (by simp),nE fun y hy=>h y (by simp[hy])]
theorem uA(D:Array T5):(Go.Sort.flatK iX 5 D).toList=(TL.qs 5 (D.toList.map T5.cp)).cells:=by
 have e:(Go.Sort.flatK iX 5 D).toList=(List.range (D.size*5)).map fun t=>(iX D[t / 5]!)[t%5]! :=by
  unfold Go.Sort.flatK;rw[Array.toList_map,Array.toList_range]
 rw[e,Dj];unfold TL.cells;show _=(List.range (aN (D.toList.map T5.cp))).flatMap _
 have hl:aN (D.toList.map T5.cp)=D.size:=by simp[aN]
 rw[hl];refine nE fun j hj=>?_
 have hj:j<D.size:=by simpa using hj
 show _=Sx.cells Env.zero (.ag (qL (D.toList.map T5.cp) j 0 5))
 unfold Sx.cells;simp only[den,Value.cells,pk]
 have hq:(D.toList.map T5.cp).getD j []=D[j]!.cp:=by
  rw[aq,List.getElem?_map,getElem!_pos D j hj];simp[hj]
 refine List.map_congr_left fun y hy=>?_
 have hy:y<5:=by simpa using hy
 have h1:(j*5+y) / 5=j:=by omega
 have h2:(j*5+y)%5=y:=by omega
 rw[h1,h2];unfold cr;rw[hq,Nat.zero_add];unfold iX T5.cp;match y,hy with
 |0,_=>rfl
 |1,_=>rfl
 |2,_=>rfl
 |3,_=>rfl
 |4,_=>rfl
theorem DY(F cur:Array Value)(h:F.size<=cur.size):(putCells id 0 F cur).toList.take F.size=F.toList/\(putCells id 0 F cur).size=cur.size:=by
 have hs:(putCells id 0 F cur).size=cur.size:=by unfold putCells;simp
 refine⟨List.ext_getElem? fun i=>?_,hs⟩
 rw[List.getElem?_take];by_cases hi:i<F.size
 ·rw[au hi];unfold putCells;have hc:i<cur.size:=by omega
  simp[hi,hc]
 ·rw[ar hi];symm
  simpa using Nat.le_of_not_lt hi
theorem Ah{w:World}{g e:Nat}{cur:Array Value}(hb:w.heap[g]? =some (.cells cur e (0,0)))(m:Nat)(dk:Array T5)(os:Array Go.Obj):
  (sortWorldK iX 5 w g 0 m dk os).heap[g]? =some (.cells (putCells id 0 (Go.Sort.flatK iX 5 dk) cur) e (0,0))/\(∀b,b<w.heap.size->b≠g->(sortWorldK iX 5 w g 0 m dk os).heap[b]? =w.heap[b]?)/\w.heap.size<=(sortWorldK iX 5 w g 0 m dk os).heap.size:=by
 have hg:=(Array.getElem?_eq_some_iff.1 hb).1;have e0:(sortWorldK iX 5 w g 0 m dk os).heap=(w.heap.modify g (onCells (putCells id 0 (Go.Sort.flatK iX 5 dk))))++os:=rfl;rw[e0];refine⟨?_,fun b hlt hne=>?_,by simp⟩
 ·rw[Array.getElem?_append_left (by simpa using hg),Array.getElem?_modify,au rfl,hb];rfl
 ·rw[Array.getElem?_append_left (by simpa using hlt),Array.getElem?_modify,ar (Ne.symm hne)]
theorem Fu{q M:List Cp}(h5:∀x∈q,x.length=5)(hM:∀x∈M,x∈q)(hq:∀j,j<(TL.qs 5 q).len->ok (fun _=>False) ((TL.qs 5 q).get j)):∀j,j<(TL.qs 5 M).len->ok (fun _=>False) ((TL.qs 5 M).get j)/\bp ((TL.qs 5 M).get j)=false/\bP ((TL.qs 5 M).get j)=5:=fun j hj=>by
 have hj:j<M.length:=hj;have hm:M[j]∈q:=hM _ (List.getElem_mem hj);obtain⟨i,hi,he⟩:=List.getElem_of_mem hm;have hok:=hq i hi
 have e:∀c,cr M j c=cr q i c:=fun c=>by
  have h1:M.getD j []=q.getD i []:=by rw[aq,List.getElem?_eq_getElem hj,aq,List.getElem?_eq_getElem hi,he]
  unfold cr;rw[h1]
 have e2:(TL.qs 5 M).get j=(TL.qs 5 q).get i:=congrArg V.ag (re e 5 0);rw[e2];refine⟨hok,rfl,?_⟩;show ko (qL q i 0 5)=5
 exact yv _ _
theorem Gf:p7 Tryz.prog 60 Cn:=by
 intro args res K KP hh;unfold Cn at hh;split at hh
 case h_2=>exact hh.elim
 split at hh
 case h_2=>exact hh.elim
 rename_i k;split at hh
 case h_2=>exact hh.elim
 rename_i g hg;have hg:=Bo hg;subst hg;split at hh
 case h_2=>exact hh.elim
 rename_i own esz t hr;split at hh
 case h_2=>exact hh.elim
 rename_i e;split at hh
 case h_2=>exact hh.elim
 rename_i n q;split at hh
 case isFalse=>exact hh.elim
 rename_i hc;simp only[ah,aj]at hc;obtain⟨⟨rfl,rfl⟩,rfl⟩:=hc;obtain⟨⟨hnd,h5,hsm⟩,hK⟩:=hh;intro J fps w0 F0 w hH hargs;have hk:known res k:=by unfold known;rw[hr];simp
 have hho:=hH.holds k hk;rw[hr]at hho;obtain⟨c1,c2,c3,c4,c5,c6,c7⟩:=hho;rcases c7 with⟨c7,_⟩|⟨e',ce,hrow,hfp⟩
 ·simp at c7
 have ce:=ce e rfl;subst ce;have hlen:(TL.qs 5 q).len=q.length:=rfl;obtain⟨s1,s2⟩:=lG h5 hnd;have hMlen:(kr q).length=q.length:=s2.length_eq
 have hcell:(TL.qs 5 q).cells=(Go.Sort.flatK iX 5 (q.map fI).toArray).toList:=by
  rw[uA]
  have:(q.map fI).toArray.toList.map T5.cp=q:=by
   rw[List.map_map];conv=>rhs;rw[<-List.map_id q]
   exact List.map_congr_left fun x hx=>zn (h5 x hx)
  rw[this]
 have hel:=Fu h5 (fun x hx=>s2.mem_iff.1 hx) fun j hj=>(c1 j hj).1
 have fin:∀w',w'.os=w.os->w'.tape=w.tape->w'.output=w.output->w.heap.size<=w'.heap.size->(∀b,b<w.heap.size->¬fps k b->w'.heap[b]? =w.heap[b]?)->w'.ownsRow 0 e 5 (J.sl k) q.length (TL.qs 5 (kr q)).cells->
   ∃x ρ' fps' res',aQ ρ' fps' res' (known res') w0 F0 w'/\Sx.Good J res ρ' res'/\ok (known res') x/\(.returned (.tuple #[])=Ending.returned (den ρ' x)/\K x res'):=fun w' a1 a2 a3 a4 a5 a6=>by
  obtain⟨fps',f1,f2,f3⟩:=hH.qB (ρ':=J) (w':=w') [] k (.arr (some e) 5 (.qs 5 (kr q))) [] (fps k) (by simp) (by simp) hk (by simp) (by simp) (Env.agree.refl _ _)
   ⟨hel,by rw[c2,hlen,<-hMlen];rfl,by show(kr q).length<=_;rw[hMlen];exact c3,c4,fun h=>c5 (by show 0<q.length;rw[<-hMlen];exact h),fun h=>c6 (by show 0<q.length;rw[<-hMlen];exact h),.inr ⟨e,by simp,by
    show w'.ownsRow 0 e 5 (J.sl k) (kr q).length _
    rw[hMlen];exact a6,hfp⟩⟩
   (fun b hb=> .inl hb) a1 a2 a3 a4 (fun b hb hn _=>a5 b hb hn)
  have hres:ba [] (bd res k (.arr (some e) 5 (.qs 5 (kr q))))++ []=bd res k (.arr (some e) 5 (.qs 5 (kr q))):=by rw[List.append_nil];rfl
  rw[hres]at f1 f3;exact⟨.tp [],J,fps',_,f1,⟨f2,f3⟩,trivial,rfl,hK⟩
 have hargs':(aV J [.sa k,.fn 42 []]).toArray= #[J.sl k,.func (.func 42) #[] #[]]:=rfl;rw[hargs'];rcases hrow.2 with⟨hv,hn0⟩|⟨g,cap,cur,hv,_,hgc,hnc,hcm,hcs,htk⟩
 ·have hq0:q= []:=List.length_eq_zero_iff.1 hn0;rw[hv];refine rN (fun h:False=>h) ((AnyF.slices_SortFunc_none BD none 0 _ w).mono fun en w' ⟨he,hw⟩=>?_)
  subst hw
  obtain⟨x,ρ',fps',res',f1,f2,f3,f4,f5⟩:=fin w' rfl rfl rfl (Nat.le_refl _) (fun _ _ _=>rfl) (by
   have:kr q=q:=by rw[hq0];rfl
   rw[this];exact hrow)
  exact⟨x,ρ',fps',res',f1,f2,f3,.inl ⟨by rw[he,f4],f5⟩⟩
 ·rw[hv]
  have hfg:fps k g:=by
   have hsa:J.sa k=some ⟨g,0,none⟩:=by
    have:Value.slice (J.sa k) (J.sn k) (J.cap k)= .slice (some ⟨g,0,none⟩) (TL.qs 5 q).len cap:=hv;simp only[Value.slice.injEq]at this;exact this.1
   exact hfp _ hsa
  have hds:(q.map fI).toArray.size=q.length:=by simp
  have hFs:(Go.Sort.flatK iX 5 (q.map fI).toArray).size=q.length*5:=by rw[size_flatK,hds]
  have hle:q.length*5<=cur.size:=by rw[hcs];exact Nat.mul_le_mul_right _ hnc
  have hH5:HoldsK iX 5 w g 0 (q.map fI).toArray:=fun j hj=>by
   rw[hFs]at hj;refine⟨?_,?_⟩
   ·unfold World.cell?;simp only[Nat.zero_add,hgc]
    have h1:cur[j]? =(Go.Sort.flatK iX 5 (q.map fI).toArray)[j]? :=by
     have h2:(cur.toList.take (q.length*5))[j]? =(Go.Sort.flatK iX 5 (q.map fI).toArray).toList[j]? :=by
      rw[<-hcell,<-htk];rfl
     rw[List.getElem?_take,au hj]at h2;simpa using h2
    simp only[Option.isSome_none,Bool.false_eq_true,if_false,h1,id];rw[getElem!_pos _ j (by rw[hFs];exact hj),Array.getElem?_eq_getElem]
   ·unfold World.frozen?;simp[hgc]
  have hlt:=(Array.getElem?_eq_some_iff.1 hgc).1
  have hcon:=AnyQ.slices_SortFunc_total BD 5 (Tryz.isAgg26) (Tryz.sizeOf26) iX (fun _=>rfl) (fun x v hv=>by simp[iX,i64]at hv;rcases hv with rfl|rfl|rfl|rfl|rfl<;>rfl) zq Ly 42 #[] g 0 cap (q.map fI).toArray w
   (enters_of Tryz.func42 (by kernel_rfl) rfl) (LI g 0 _ w) hH5 hlt (by rw[hds];omega) (fun x y h1 h2=>by rw[E9]at h1 h2;exact nj h1 h2)
  rw[hds]at hcon;refine rN (fun h:False=>h) (hcon.mono fun en w' ⟨he,m,os,hw⟩=>?_)
  have hmg:=AJ h5 hnd (fun x y=> !(ltOf zq) y x) (fun x y=>by rw[Bool.not_eq_true',E9])
  have hdl:(q.map fI).toArray.toList=q.map fI:=rfl;rw[hdl]at hw;obtain⟨k1,k2,k3⟩:=Ah hgc m ((q.map fI).mergeSort fun x y=> !(ltOf zq) y x).toArray os
  have hms:((q.map fI).mergeSort fun x y=> !(ltOf zq) y x).toArray.size=q.length:=by simp[List.length_mergeSort]
  have hF2:(Go.Sort.flatK iX 5 ((q.map fI).mergeSort fun x y=> !(ltOf zq) y x).toArray).size=q.length*5:=by rw[size_flatK,hms]
  obtain⟨t1,t2⟩:=DY (Go.Sort.flatK iX 5 ((q.map fI).mergeSort fun x y=> !(ltOf zq) y x).toArray) cur (by rw[hF2];exact hle)
  obtain⟨x,ρ',fps',res',f1,f2,f3,f4,f5⟩:=fin w' (by rw[hw];rfl) (by rw[hw];rfl) (by rw[hw];rfl) (by rw[hw];exact k3) (fun b hb hn=>by
    rw[hw];exact k2 b hb fun e=>hn (e▸hfg)) (by
   refine⟨?_,.inr ⟨g,cap,_,hv,Nat.zero_le _,by rw[hw];exact k1,hnc,hcm,by rw[t2];exact hcs,?_⟩⟩
   ·rw[<-hmg,<-hF2];have:=congrArg List.length (uA ((q.map fI).mergeSort fun x y=> !(ltOf zq) y x).toArray)
    simp only[Array.length_toList]at this;exact this.symm
   ·rw[<-hF2,t1,uA,<-hmg])
  exact⟨x,ρ',fps',res',f1,f2,f3,.inl ⟨by rw[he,f4],f5⟩⟩
end Go.Proofs.YtmfbohanboiklaaGreatDoor
