import Derived.Test.YtlblcfaclmpekaaGreatKO
import Derived.Test.YtlblcfaclmpekaaGreatSxF
set_option linter.unusedSimpArgs false
set_option linter.unusedVariables false
namespace Go.Sx
def aR (L:List Obj):Bool:=decide (an L=0)
def cI (L:List Obj) (oid:Int):Int:=if an L=0 then 1 else if oid<0\/(an L:Int)<=oid then 4 else 0
def aD (L:List Obj) (oid:Int):Obj:=if cI L oid=0 then aq L oid.toNat free else free
def aj (L:List Obj):Int:=(an L:Int)
def aT (L:List Obj) (k:Key):Bool:=aU k&&decide (cI L k.oid=0)&&cw k (aq L k.oid.toNat free)
def aa (L:List Obj) (k:Key):Obj:=if aT L k then aq L k.oid.toNat free else free
def ah (L:List Obj) (k:Key):Key:=if aR L|| !aW k||(aU k&& !aT L k)then void else k
def fy (n:Int):Bool:=decide (1<=n)&&decide (n<=64)
def jG (n:Int):List Obj:=List.replicate n.toNat free
def bP (L:List Obj) (i:Int) (o:Obj):List Obj:=if cI L i=0/\dc o (an L:Int)=0 then dh L i.toNat o else L
def eP (L:List Obj) (i:Int) (o:Obj):Int:=if cI L i=0 then dc o (an L:Int)else cI L i
def zd (l:List Obj):Bool:=decide (1<=an l)&&decide (an l<=64)&&(List.range (an l)).all fun i=>bu (aq l i free) (an l:Int)
def zR (n i:Int):Prop:=0<=i/\i<=n
abbrev tS:Nat:=102
abbrev eS:Nat:=106
def R0 (c:Bool) (M:List Obj) (v:V) (r:List aC):Prop:=
 match v with
 | .tp l=>match l with
   | [a,b]=>match a with
     | .nl p=>match p with
       | .pointer none=>c=false/\nE (.ci .i64 2) b r
       |_=>False
     | .lp j off=>match F5 r j with
       |some (t,e,L)=>if off==0&&t==tS&&e==eS then c=true/\nE (.ci .i64 0) b r/\L=M else False
       |none=>False
     |_=>False
   |_=>False
 |_=>False
def UK (n:Int):V->List aC->Prop:=R0 (fy n) (jG n)
def T4 (x:V) (M:List Obj) (v:V) (r:List aC):Prop:=
 match CH r 0 with
 |some (t,e,_,L)=>if t==tS&&e==eS then nE x v r/\L=M else False
 |none=>False
def O5:nz:=fun args res K=>
 match args with
 | [a]=>match rI .i64 a with
   |some n=>(fy n=false->K (.tp [gT,.ci .i64 2]) res)/\(fy n=true->K (.tp [.lp res.length 0,.ci .i64 0]) (res++ [.store tS eS (jG n)]))
   |none=>False
 |_=>False
def S1 (c:V):Bool:=
 match c with
 | .ag l=>match l with
   | [x]=>match x with
     | .nl v=>match v with
       | .slice none 0 0=>true
       |_=>false
     |_=>false
   |_=>false
 |_=>false
theorem wE {c:V} (h:S1 c=true):c= .ag [.nl (.slice none 0 0)]:=by
 unfold S1 at h;split at h
 ·split at h
  ·split at h
   ·split at h
    ·rfl
    ·simp at h
   ·simp at h
  ·simp at h
 ·simp at h
def OS:nz:=fun args res K=>
 match args with
 | [a,b,c]=>match rI .i64 b with
   |some i=>match rO c with
    |some o=>match a with
     | .nl v=>match v with
       | .pointer none=>K (.it .i64 (eP [] i o)) res
       |_=>False
     | .lp k off=>if off==0 then match ar res k with
       | .store t e L=>if t==tS&&e==eS then K (.it .i64 (eP L i o)) (bw res k (.store tS eS (bP L i o)))else False
       | .blk t c=>if t==tS&&S1 c then K (.it .i64 (eP [] i o)) res else False
       |_=>False
       else False
     |_=>False
    |none=>False
   |none=>False
 |_=>False
structure Ve where
 puts:Bool
 oid:Int
 ob:Obj
def Ve.wf (x:Ve):Prop:=cj .i64 x.oid/\x.ob.wf
def On:Ct:=RP (.bo true)
def cX (L M:List Obj):Bool:=decide (L=M)
def en (L M:List Obj) (g:Int):List Int:=((List.range g.toNat).filter fun j=> !z0 (aq L j free) (aq M j free)).map Int.ofNat
def iI (L M:List Obj):Bool:=aR L||aR M|| !decide ((an L:Int)=(an M:Int))
def ck (L M:List Obj):List Int:=en L M (an L:Int)
def ka (L:List Obj) (g:Int):List Obj:=L.take g.toNat
def jV (L:List Obj) (g:Int):Prop:=0<=g/\g<=(an L:Int)
abbrev R3:V:= .nl (.slice none 0 0)
abbrev tI:Nat:=3
def Bn (L:List Obj) (v:V) (r:List aC):Prop:=
 match v with
 | .nl p=>match p with
   | .pointer none=>aR L=true
   |_=>False
 | .lp j off=>match F5 r j with
   |some (t,e,M)=>if off==0&&t==tS&&e==eS&&Nat.ble 1 j then aR L=false/\M=L else False
   |none=>False
 |_=>False
def JB (L M:List Obj) (v:V) (r:List aC):Prop:=
 match v with
 | .nl p=>match p with
   | .slice none 0 0=>iI L M=true
   |_=>False
 | .sa j=>match ar r j with
   | .arr own esz l=>match own with
     |some e=>match l with
      | .it k l=>match k with
        | .i64=>if e==tI&&esz==1&&Nat.ble 2 j then iI L M=false/\l=ck L M else False
        |_=>False
      |_=>False
     |none=>False
   |_=>False
 |_=>False
def Iu:nz:=fun args res K=>
 match args with
 | [a]=>match a with
   | .nl v=>match v with
     | .pointer none=>K gT res
     |_=>False
   | .lp k off=>if off==0 then match cU res k with
     | .store t e L=>if t==tS&&e==eS then an L<=1000/\(aR L=true->K gT res)/\(aR L=false->K (.lp res.length 0) (res++ [.store tS eS L]))else False
     |_=>False
     else False
   |_=>False
 |_=>False
def Pf:nz:=fun args res K=>
 match args with
 | [a,b]=>match b with
   | .lp j off=>if off==0 then match cU res j with
     | .store t e M=>if t==tS&&e==eS then match a with
       | .nl v=>match v with
         | .pointer none=>K R3 res
         |_=>False
       | .lp k off'=>if off'==0&& !(k==j)then match cU res k with
         | .store t e L=>if t==tS&&e==eS then an L<=1000/\(iI L M=true->K R3 res)/\(iI L M=false->K (.sa res.length) (res++ [.arr (some tI) 1 (.it .i64 (ck L M))]))else False
         |_=>False
         else False
       |_=>False
       else False
     |_=>False
     else False
   |_=>False
 |_=>False
def D7:Ct:=fun res nid xs=>match xs with
 | [a]=>match rS tS eS res a with
   |some (o,L)=>match o with
    |none=>some (none,.cb true,[])
    |some _=>some (none,.bo (aR L),[])
   |none=>none
 |_=>none
def ia (L:List Obj):Prop:=an L<=1000
def M7:Ct:=PR tS eS (fun L M=>ia L/\ia M) fun L M=> .bo (cX L M)
theorem jF {α:Type} (l:List α):bU (an l)=(l.length:Int):=rfl
theorem pT {α:Type} (l:List α):((an l:Nat):Int)=(l.length:Int):=rfl
def CJ:Ct:=PW tS eS fun L=> .bo (aR L)
def Tr:Ct:=Fo tS eS (rI .i64) fun L i=> .it .i64 (cI L i)
def S6:Ct:=Fo tS eS (rI .i64) fun L i=> .tp [.ob (aD L i),.it .i64 (cI L i)]
def Dq:Ct:=PW tS eS fun L=> .it .i64 (aj L)
def Mo:Ct:=Fo tS eS rK fun L k=> .tp [.ob (aa L k),.bo (aT L k)]
def Qs:Ct:=Fo tS eS rK fun L k=> .key (ah L k)
theorem Aj {n:Nat} (h:n<1000):oW n 8:=by unfold oW;simp only[maxLen];omega
theorem HU {L:List Obj} {g:Int} (h0:0<=g) (h1:g<(L.length:Int)):gu (ka L g) (aq L g.toNat free)=ka L (g+1):=by
 unfold gu ka aq;rw[show(g+1).toNat=g.toNat+1 by omega,List.take_add_one,VP,List.getElem?_eq_getElem (by omega)];rfl
theorem G3 {L:List Obj} {g:Int} (h:(L.length:Int)<=g):ka L g=L:=by unfold ka;rw[List.take_of_length_le (by omega)]
theorem JZ {L:List Obj} {g:Int}:an (ka L g)<=g.toNat:=by unfold an ka;rw[List.length_take];omega
theorem Aw {L M:List Obj} {g:Int}:an (en L M g)<=g.toNat:=by
 unfold an en;rw[List.length_map];exact Nat.le_trans (List.length_filter_le _ _) (by rw[List.length_range];omega)
theorem At {L M:List Obj} {g:Int} (h0:0<=g) (h:(!z0 (aq L g.toNat free) (aq M g.toNat free))=true):gu (en L M g) g=en L M (g+1):=by
 unfold gu en;rw[show(g+1).toNat=g.toNat+1 by omega,List.range_succ,List.filter_append,List.map_append]
 simp only[List.filter_cons,h,if_true,List.filter_nil,List.map_cons,List.map_nil];congr 2
 show g=((g.toNat:Nat):Int)
 omega
theorem ED {L M:List Obj} {g:Int} (h0:0<=g) (h:(!z0 (aq L g.toNat free) (aq M g.toNat free))=false):en L M g=en L M (g+1):=by
 unfold en;rw[show(g+1).toNat=g.toNat+1 by omega,List.range_succ,List.filter_append,List.map_append]
 simp only[List.filter_cons,h,Bool.false_eq_true,if_false,List.filter_nil,List.map_nil,List.append_nil]
theorem Mv {L M:List Obj} (h:L.length=M.length):ck L M= []↔L=M:=by
 unfold ck en;rw[List.map_eq_nil_iff,List.filter_eq_nil_iff];simp only[List.mem_range,Bool.not_eq_true',Bool.not_eq_false];constructor
 ·intro hh;refine List.ext_getElem h fun i h1 h2=>?_
  have:=hh i (by unfold an;omega)
  simp only[z0,VL,aq,VP,List.getElem?_eq_getElem h1,List.getElem?_eq_getElem h2,Option.getD_some]at this;exact this
 ·rintro rfl i _
  simp[z0]
theorem jD:aR []=true:=rfl
theorem jB {L:List Obj}:aR L=true↔L= []:=by
 unfold aR an;simp[List.length_eq_zero_iff]
theorem qh (i:Int):cI [] i=1:=rfl
theorem HM {L:List Obj} (h:aR L=false) (i:Int):cI L i=if i<0\/(L.length:Int)<=i then 4 else 0:=by
 have:L≠ []:=fun e=>by rw[e]at h;simp[jD]at h
 unfold cI an;rw[VQ (by simpa[List.length_eq_zero_iff]using this)]
theorem mZ {L:List Obj} {i:Int}:cI L i=0↔0<=i/\i<(L.length:Int):=by
 unfold cI an;split
 ·omega
 ·split<;>omega
theorem yt (L:List Obj) (k:Key):((!aU k)=true->free=aa L k/\false=aT L k)/\
  ((!aU k)=false->
    ((!decide (cI L (bJ k)=0)|| !cw k (aD L (bJ k)))=true->
      free=aa L k/\false=aT L k)/\
      ((!decide (cI L (bJ k)=0)|| !cw k (aD L (bJ k)))=false->
        aD L (bJ k)=aa L k/\true=aT L k)):=by
 have fin:∀b,aT L k=b->(b=false->free=aa L k)/\b=aT L k:=fun b h=>⟨fun hb=>by unfold aa;rw[h,hb];rfl,h.symm⟩
 refine⟨fun h=>?_,fun h=>?_⟩
 ·have h:aU k=false:=by simpa using h
  have:=fin false (by unfold aT;rw[h];rfl)
  exact⟨this.1 rfl,this.2⟩
 ·have h:aU k=true:=by simpa using h
  have ho:bJ k=k.oid:=by unfold bJ;rw[VR h]
  rw[ho];by_cases hh:cI L k.oid=0
  ·have hg:aD L k.oid=aq L k.oid.toNat free:=by unfold aD;rw[VR hh]
   rw[hg];have e:aT L k=cw k (aq L k.oid.toNat free):=by unfold aT;simp[h,hh]
   refine⟨fun hc=>?_,fun hc=>?_⟩
   ·have hc:cw k (aq L k.oid.toNat free)=false:=by simpa[hh]using hc
    have:=fin false (by rw[e,hc])
    exact⟨this.1 rfl,this.2⟩
   ·have hc:cw k (aq L k.oid.toNat free)=true:=by simpa[hh]using hc
    have:=fin true (by rw[e,hc])
    refine⟨?_,this.2⟩;unfold aa;rw[e,hc];rfl
  ·have:=fin false (by unfold aT;simp[hh])
   exact⟨fun _=>⟨this.1 rfl,this.2⟩,fun hc=>by simp[hh]at hc⟩
theorem Av (L:List Obj) (k:Key):((aR L|| !decide (bT k=0))=true->void=ah L k)/\
  ((aR L|| !decide (bT k=0))=false->
    ((aU k&& !aT L k)=true->void=ah L k)/\((aU k&& !aT L k)=false->k=ah L k)):=by
 have hc:(!decide (bT k=0))= !aW k:=by unfold bT;cases aW k<;>simp
 rw[hc];unfold ah;refine⟨fun h=>?_,fun h=>⟨fun h2=>?_,fun h2=>?_⟩⟩
 ·rw[VR];simp only[h,Bool.true_or]
 ·rw[VR];simp only[h2,Bool.or_true]
 ·rw[VQ];simp only[h,h2];simp
theorem Gx {n:Int}:fy n=true↔1<=n/\n<=64:=by simp[fy]
theorem M5 {g:Int} (h:0<=g):gu (jG g) free=jG (g+1):=by
 unfold gu jG;rw[show(g+1).toNat=g.toNat+1 by omega,List.replicate_succ']
theorem DX {i:Int} {o:Obj}:eP [] i o=1:=by unfold eP;rw[qh];rfl
theorem LB {L:List Obj} {i:Int} {o:Obj} (h:cI L i≠0):eP L i o=cI L i/\bP L i o=L:=by
 unfold eP bP;rw[VQ h,VQ (fun hh=>h hh.1)];exact⟨rfl,rfl⟩
theorem Rf {L:List Obj} {i:Int} {o:Obj} (h:cI L i=0) (h2:dc o (an L:Int)≠0):eP L i o=dc o (an L:Int)/\bP L i o=L:=by
 unfold eP bP;rw[VR h,VQ (fun hh=>h2 hh.2)];exact⟨rfl,rfl⟩
theorem rX {L:List Obj} {i:Int} {o:Obj} (h:cI L i=0) (h2:dc o (an L:Int)=0):eP L i o=0/\bP L i o=dh L i.toNat o:=by
 unfold eP bP;rw[VR h,VR ⟨h,h2⟩];exact⟨h2,rfl⟩
theorem QF {c:Bool} {M:List Obj} (hn:c=false) {v:V} {r:List aC} (h:R0 c M v r):wv (.tp [gT,.ci .i64 2]) v []:=by
 unfold R0 at h;split at h
 ·split at h
  ·split at h
   ·split at h
    ·exact Og (cO h.2)
    ·exact h.elim
   ·split at h
    ·split at h
     ·rw[hn]at h;simp at h
     ·exact h.elim
    ·exact h.elim
   ·exact h.elim
  ·exact h.elim
 ·exact h.elim
theorem Mc {c:Bool} {M:List Obj} (hn:c=true) {v:V} {r:List aC} (h:R0 c M v r):∃j b,v= .tp [.lp j 0,b]/\wv (.ci .i64 0) b []/\F5 r j=some (tS,eS,M):=by
 unfold R0 at h;split at h
 ·split at h
  ·split at h
   ·split at h
    ·rw[hn]at h;simp at h
    ·exact h.elim
   ·split at h
    ·rename_i hst;split at h
     ·rename_i hc;simp only[VK,VM]at hc;obtain⟨⟨rfl,rfl⟩,rfl⟩:=hc;obtain⟨_,h2,rfl⟩:=h;exact⟨_,_,rfl,cO h2,hst⟩
     ·exact h.elim
    ·exact h.elim
   ·exact h.elim
  ·exact h.elim
 ·exact h.elim
theorem LS {c:Bool} {M:List Obj} (hn:c=true) {v:V} {r:List aC} (h:R0 c M v r):∃j r',F5 r j=some (tS,eS,M)/\(r'=r\/r6 r j=some r')/\ar r' j= .store tS eS M/\∀(κ:Nat->Option Nat) (i:Nat),κ j=some i->j7 κ v (.tp [.lp i 0,.ci .i64 0]):=by
 obtain⟨j,b,rfl,hb,hst⟩:=Mc hn h
 have ht:∀(κ:Nat->Option Nat) (i:Nat),κ j=some i->j7 κ (.tp [.lp j 0,b]) (.tp [.lp i 0,.ci .i64 0]):=fun κ i hi ρ2 ρ3 N N' hv hN hk=>by
  obtain⟨s1,s2,_⟩:=hb ρ2 N;refine⟨?_,hN j i hi hk.1,by simp[ok,cj],trivial⟩
  simp only[den,bj,(hv j i hi).1,s1]
 rcases BQ hst with h1|⟨r',h1,h2⟩
 ·exact⟨j,r,hst,.inl rfl,h1,ht⟩
 ·exact⟨j,r',hst,.inr h1,h2,ht⟩
theorem N9 {x:V} {M:List Obj} {v:V} {r:List aC} (h:T4 x M v r):∃t,CH r 0=some (tS,eS,t,M)/\wv x v r:=by
 unfold T4 at h;split at h
 ·rename_i hst;split at h
  ·rename_i hc;simp only[VK,VM]at hc;obtain⟨rfl,rfl⟩:=hc;obtain⟨h1,rfl⟩:=h;exact⟨_,hst,cO h1⟩
  ·exact h.elim
 ·exact h.elim
theorem UR {P:Program} {f:Nat} {rest:List V} {res:List aC} {K KP:V->List aC->Prop} {k:Nat} {L M:List Obj} {x:V} (hr:ar res k= .store tS eS L) (hid:la rest=true) (hx:jJ x=true)
  (h:(∀o∈L,o.wf)->L.length<=9223372036854775807->ak P f (.lp 0 0::rest) [.blk tS (.ag [.sa 1]),.obs eS 2 L,.gen 1] (T4 x M) (fun _ _=>False)) (hK:K x (bw res k (.store tS eS M))):ak P f (.lp k 0::rest) res K KP:=by
 refine ak.zw hr hid hx ?_ hK;refine ak.fact (k:=0) rfl fun w1 w2=>?_
 refine ak.jd (k:=0) rfl ?_;refine ak.shut (h w1 w2) fun v r hv=>?_
 obtain⟨t,h1,h2⟩:=N9 hv;obtain⟨r',g1,g2⟩:=yr h1;exact .inr ⟨0,r',g1,fun J K=>h2 J K,g2⟩
theorem fH {l:List Obj}:zd l=true↔1<=l.length/\l.length<=64/\∀i,i<l.length->bu (aq l i free) (l.length:Int)=true:=by
 unfold zd an;simp only[VK,VL,List.all_eq_true,List.mem_range,and_assoc]
theorem Df (o:Obj) (n:Int):(dc o n=0/\bu o n=true)\/(dc o n=2/\bu o n=false):=by
 unfold dc;cases bu o n<;>simp
theorem mE (k:Key):(aU k=true/\cM k=k.oid/\0<=k.oid)\/(aU k=false/\cM k= -1):=by
 have h:cM k=if aU k then k.oid else -1:=rfl
 cases hn:aU k
 ·exact .inr ⟨rfl,by rw[h,hn];rfl⟩
 ·refine .inl ⟨rfl,by rw[h,hn];rfl,?_⟩
  unfold aU at hn;simp only[VK]at hn;have:=hn.1;simp only[aW,fa,hn.2,if_true,VK,VL]at this;omega
theorem xh {l:List Obj} {k:Key} (h:aT l k=true):0<=cM k/\cM k<(l.length:Int)/\aa l k=aq l (cM k).toNat free:=by
 have h':=h;unfold aT at h;simp only[VK,VL]at h;have hb:=mZ.1 h.1.2;rcases mE k with⟨h1,h2,h3⟩|⟨h1,h2⟩
 ·rw[h2];exact⟨hb.1,hb.2,by unfold aa;rw[h',VR rfl]⟩
 ·rw[h1]at h;simp at h
theorem rr {L M:List Obj} (h:L.length=M.length) (h2:∀j:Nat,j<L.length->aq L j free=aq M j free):L=M:=by
 apply List.ext_getElem h
 intro i h3 h4;have:=h2 i h3;unfold aq at this;simpa[VP,h3,h4]using this
end Go.Sx
namespace Go.Proofs.YtlblcfaclmpekaaGreat
open Go.Sx
set_option maxRecDepth 100000
theorem Lh:
 true=aR []:=by
 rfl
theorem Ig (L:List Sx.Obj):
 decide (bU (an L)=0)=aR L:=by
 unfold aR bU an;rw[decide_eq_decide];omega
theorem nM:dD Tryz.prog 42 CJ:=
 J0 (fun _=>rfl) (bx (inl:=ca) (ann:=aV) ay Lh (by kernel_rfl)) (fun L _ _=>bx (inl:=ca) (ann:=aV) ay (Ig L) (by kernel_rfl))
theorem MV (i:Int):
 (aR []=true->1=cI [] i)/\
  (aR []=false->((!decide (i<0))=true->False)/\((!decide (i<0))=false->4=cI [] i)):=by
 exact⟨fun _=>rfl,fun h=>by simp[jD]at h⟩
theorem Oh (L:List Sx.Obj) (i:Int):
 (aR L=true->1=cI L i)/\
  (aR L=false->
   ((decide (i<0)||decide (bU (an L)<=i))=true->4=cI L i)/\
     ((decide (i<0)||decide (bU (an L)<=i))=false->0=cI L i)):=by
 refine⟨fun h=>?_,fun h=>?_⟩
 ·rw[jB.1 h];rfl
 ·rw[HM h];unfold bU an;refine⟨fun h1=>?_,fun h1=>?_⟩
  ·simp only[Bool.or_eq_true,VL]at h1;rw[VR h1]
  ·simp only[Bool.or_eq_false_iff,decide_eq_false_iff_not]at h1;rw[VQ (by omega)]
theorem wU:dD Tryz.prog 45 Tr:=
 vn (gJ .i64) (fun _ _=>rfl) (fun x _=>bx (inl:=ca) (ann:=aV) (ae nM ay) (MV x) (by kernel_rfl)) (fun L x _ _ _=>bx (inl:=ca) (ann:=aV) (ae nM ay) (Oh L x) (by kernel_rfl)) fun _=>rfl
theorem Lf:
 (aR []=true->0=aj [])/\(aR []=false->False):=by
 exact⟨fun _=>rfl,fun h=>by simp[jD]at h⟩
theorem JV (L:List Sx.Obj):
 (aR L=true->0=aj L)/\(aR L=false->bU (an L)=aj L):=by
 exact⟨fun h=>by rw[jB.1 h];rfl,fun _=>rfl⟩
theorem bd:dD Tryz.prog 36 Dq:=
 J0 (fun _=>rfl) (bx (inl:=ca) (ann:=aV) (ae nM ay) Lf (by kernel_rfl)) (fun L _ _=>bx (inl:=ca) (ann:=aV) (ae nM ay) (JV L) (by kernel_rfl))
theorem Na (i:Int):
 ((!decide (cI [] i=0))=true->free=aD [] i/\cI [] i=cI [] i)/\
   ((!decide (cI [] i=0))=false->False):=by
 exact⟨fun _=>⟨rfl,rfl⟩,fun h=>by simp[qh]at h⟩
theorem Oq (L:List Sx.Obj) (i:Int):
 ((!decide (cI L i=0))=true->free=aD L i/\cI L i=cI L i)/\
   ((!decide (cI L i=0))=false->
     (0<=i/\i< ↑(an L))/\i.toNat<an L/\i.toNat<an L/\aq L i.toNat free=aD L i/\0=cI L i):=by
 refine⟨fun h=>⟨?_,rfl⟩,fun h=>?_⟩
 ·unfold aD;rw[VQ (by simpa using h)]
 ·have h:cI L i=0:=by simpa using h
  have hb:=mZ.1 h;unfold aD an;rw[VR h,h];exact⟨hb,by omega,by omega,rfl,rfl⟩
theorem eM:dD Tryz.prog 25 S6:=
 vn (gJ .i64) (fun _ _=>rfl) (fun x _=>bx (inl:=ca) (ann:=aV) (ae wU ay) (Na x) (by kernel_rfl)) (fun L x _ _ _=>bx (inl:=ca) (ann:=aV) (ae wU ay) (Oq L x) (by kernel_rfl)) fun _=>rfl
theorem Gq (k:Key):
 ((!aU k)=true->free=aa [] k/\false=aT [] k)/\
   ((!aU k)=false->
     ((!decide (cI [] (bJ k)=0)|| !cw k (aD [] (bJ k)))=true->
       free=aa [] k/\false=aT [] k)/\
       ((!decide (cI [] (bJ k)=0)|| !cw k (aD [] (bJ k)))=false->
         aD [] (bJ k)=aa [] k/\true=aT [] k)):=by
 exact yt [] k
theorem Fp (L:List Sx.Obj) (k:Key):
 ((!aU k)=true->free=aa L k/\false=aT L k)/\
   ((!aU k)=false->
     ((!decide (cI L (bJ k)=0)|| !cw k (aD L (bJ k)))=true->
       free=aa L k/\false=aT L k)/\
       ((!decide (cI L (bJ k)=0)|| !cw k (aD L (bJ k)))=false->
         aD L (bJ k)=aa L k/\true=aT L k)):=by
 exact yt L k
theorem br:dD Tryz.prog 26 Mo:=
 vn iw (fun _ _=>rfl) (fun x _=>bx (inl:=ca) (ann:=aV) (ae cF (ae eM (ae vV ay))) (Gq x) (by kernel_rfl)) (fun L x _ _ _=>bx (inl:=ca) (ann:=aV) (ae cF (ae eM (ae vV ay))) (Fp L x) (by kernel_rfl)) fun _=>rfl
end Go.Proofs.YtlblcfaclmpekaaGreat
namespace Go.Proofs.YtlblcfaclmpekaaGreat
open Go.Sx
set_option maxRecDepth 100000
theorem QS (n:Int):
 ((decide (n<1)||decide (64<n))=true->fy n=false/\True)/\
   ((decide (n<1)||decide (64<n))=false->
     (∃g,zR n g/\Value.pointer none=Value.pointer none/\n=n/\0=g/\ []=jG g)/\
      ∀(g:Int),
       zR n g->
        (decide (g<n)=true->
          oW (an (jG g)) 8/\
           aP IntKind.i64 (g+1)/\
            ∃g',
             zR n g'/\
              (n-g').toNat<(n-g).toNat/\
               Value.pointer none=Value.pointer none/\
                n=n/\g+1=g'/\gu (jG g) free=jG g')/\
         (decide (g<n)=false->fy n=true/\True/\jG g=jG n)):=by
 refine⟨fun h=>⟨?_,trivial⟩,fun h=>⟨⟨0,?_,rfl,rfl,rfl,rfl⟩,fun g hg=>⟨fun hlt=>?_,fun hge=>?_⟩⟩⟩
 ·simp only[Bool.or_eq_true,VL]at h;unfold fy;rw[Bool.and_eq_false_iff,decide_eq_false_iff_not,decide_eq_false_iff_not];omega
 ·simp only[Bool.or_eq_false_iff,decide_eq_false_iff_not]at h;exact⟨by omega,by omega⟩
 ·simp only[Bool.or_eq_false_iff,decide_eq_false_iff_not]at h;obtain⟨g0,g1⟩:=hg;have hlt:=VO hlt;refine⟨?_,?_,g+1,⟨by omega,by omega⟩,by omega,rfl,rfl,rfl,M5 g0⟩
  ·unfold oW an jG;simp only[List.length_replicate,maxLen];omega
  ·simp only[aP,cj];omega
 ·simp only[Bool.or_eq_false_iff,decide_eq_false_iff_not]at h;obtain⟨g0,g1⟩:=hg;have hge:=VN hge;exact⟨Gx.2 (by omega),trivial,by rw[show g=n by omega]⟩
theorem H8 (n:Int):ak Tryz.prog 28 [.it .i64 n] [] (UK n) (fun _ _=>False):=bx (inl:=ca) (ann:=(lr [(28,5,Vb [2,3,4,13] (fun g=> [(14,.it .i64 g)]) 0 tS eS jG (zR n) n)])) ay (QS n) (by kernel_rfl)
theorem Jv:oM Tryz.prog 28 O5:=by
 intro args res K KP h;unfold O5 at h;split at h
 ·split at h
  ·rename_i n hn;refine ak.args (ep.rd (gJ .i64) hn ep.nil) ?_;cases hb:fy n with
   |false=>exact ak.pure rfl rfl ((H8 n).mono (fun v r hv=>QF hb hv) fun _ _ h=>h) (h.1 hb)
   |true=>
    refine ak.LV (F:=fun j=> .tp [.lp j 0,.ci .i64 0]) rfl ?_ (h.2 hb)
    refine ak.shut (H8 n) fun v r hv=>?_
    obtain⟨j,r',_,h1,h2,h3⟩:=LS hb hv;rcases h1 with rfl|h1
    ·exact .inl ⟨j,h2,h3⟩
    ·exact .inr ⟨j,r',h1,j,h2,h3⟩
  ·exact h.elim
 ·exact h.elim
theorem MZ (i:Int) (o:Sx.Obj):
 ((!decide (cI [] i=0))=true->cI [] i=eP [] i o)/\((!decide (cI [] i=0))=false->False):=by
 refine⟨fun _=>?_,fun h=>by simp[qh]at h⟩
 rw[DX,qh]
theorem Mk (i:Int) (o:Sx.Obj):ak Tryz.prog 30 [gT,.it .i64 i,.ob o] [] (nE (.it .i64 (eP [] i o))) (fun _ _=>False):=bx (inl:=ca) (ann:=aV) (ae wU (ae zK ay)) (MZ i o) (by kernel_rfl)
theorem OL (L:List Sx.Obj) (i:Int) (o:Sx.Obj):
 ((!decide (cI L i=0))=true->cI L i=eP L i o/\L=bP L i o)/\
   ((!decide (cI L i=0))=false->
     ((!decide (dc o (bU (an L))=0))=true->dc o (bU (an L))=eP L i o/\L=bP L i o)/\
       ((!decide (dc o (bU (an L))=0))=false->
         (0<=i/\i< ↑(an L))/\i.toNat<an L/\0=eP L i o/\dh L i.toNat o=bP L i o)):=by
 refine⟨fun h=>?_,fun h=>⟨fun h2=>?_,fun h2=>?_⟩⟩
 ·obtain⟨a,b⟩:=LB (o:=o) (show cI L i≠0 by simpa using h)
  rw[a,b];exact⟨rfl,rfl⟩
 ·obtain⟨a,b⟩:=Rf (o:=o) (show cI L i=0 by simpa using h) (show dc o (an L:Int)≠0 by unfold bU at h2;simpa using h2)
  rw[a,b];exact⟨rfl,rfl⟩
 ·have h:=(show cI L i=0 by simpa using h)
  have hb:=mZ.1 h;obtain⟨a,b⟩:=rX (o:=o) h (show dc o (an L:Int)=0 by unfold bU at h2;simpa using h2)
  rw[a,b];exact⟨hb,by unfold an;omega,rfl,rfl⟩
theorem M8 (L:List Sx.Obj) (i:Int) (o:Sx.Obj):ak Tryz.prog 30 [.lp 0 0,.it .i64 i,.ob o] [.blk tS (.ag [.sa 1]),.obs eS 2 L,.gen 1] (T4 (.it .i64 (eP L i o)) (bP L i o)) (fun _ _=>False):=bx (inl:=ca) (ann:=aV) (ae wU (ae zK ay)) (OL L i o) (by kernel_rfl)
theorem Ng (i:Int) (o:Sx.Obj):
 ((!decide (cI [] i=0))=true->cI [] i=eP [] i o)/\
   ((!decide (cI [] i=0))=false->
     ((!decide (dc o 0=0))=true->dc o 0=eP [] i o)/\((!decide (dc o 0=0))=false->False)):=by
 refine⟨fun _=>?_,fun h=>by simp[qh]at h⟩
 rw[DX,qh]
theorem LR (i:Int) (o:Sx.Obj):ak Tryz.prog 30 [.lp 0 0,.it .i64 i,.ob o] [.ro (.blk tS (.ag [.nl (.slice none 0 0)]))] (nE (.it .i64 (eP [] i o))) (fun _ _=>False):=bx (inl:=ca) (ann:=aV) (ae wU (ae zK ay)) (Ng i o) (by kernel_rfl)
theorem cx:oM Tryz.prog 30 OS:=by
 intro args res K KP h;unfold OS at h;split at h
 ·split at h
  ·rename_i i hi;split at h
   ·rename_i o ho;refine ak.args (ep.kL (ep.rd (gJ .i64) hi (ep.rd Bk ho ep.nil))) ?_;split at h
    ·split at h
     ·exact ak.pure rfl rfl ((Mk i o).mono (fun _ _ h=>cO h) fun _ _ h=>h) h
     ·exact h.elim
    ·split at h
     ·rename_i hoff;have hoff:=VM.1 hoff;subst hoff;split at h
      ·rename_i hr;split at h
       ·rename_i hc;simp only[VK,VM]at hc;obtain⟨rfl,rfl⟩:=hc;exact UR hr rfl rfl (fun _ _=>M8 _ i o) h
       ·exact h.elim
      ·rename_i hr;split at h
       ·rename_i hc;simp only[VK,VM]at hc;obtain⟨rfl,hz⟩:=hc;have:=wE hz;subst this;refine ak.Ko (r0:= .blk tS (.ag [.nl (.slice none 0 0)])) (by unfold cU;rw[hr]) (by simp) (fun κ=>rfl) rfl rfl ((LR i o).mono (fun _ _ h=>cO h) fun _ _ h=>h) h
       ·exact h.elim
      ·exact h.elim
     ·exact h.elim
    ·exact h.elim
   ·exact h.elim
  ·exact h.elim
 ·exact h.elim
end Go.Proofs.YtlblcfaclmpekaaGreat
namespace Go.Sx
def jq (r b:Int):Bool:=decide ((r.tdiv b).tmod 2=1)
def vf (r m g:Int):Int:=(if 2<=g/\(jq r 1||jq m 1)=true then 1 else 0)+(if 4<=g/\(jq r 2||jq m 2)=true then 2 else 0)+(if 8<=g/\(jq r 4||jq m 4)=true then 4 else 0)
def jr (r m:Int):Int:=vf r m 8
def cA (k:Key) (r:Int):Key:= {k with rights:=r}
def tt (k:Key):Key:=if k.kind=2 then cA k (jr k.rights 3)else if k.kind=3 then cA k 1 else if k.kind=1\/k.kind=8 then k else void
def gk (k:Key):Key:=if aW k then tt k else void
def HI:Ct:=R2 rK fun k=> .tp [.key (gk k),.it .i64 (bT k)]
def aS (L:List Obj) (k:Key) (kind:Int) (c:Bool):Int:=if an L=0 then 1 else if(!aT L k|| !decide (k.kind=kind))=true then 190 else if(c&& !decide (k.rights.tmod 4=0))=true then 191 else 0
def yj (k:Key):Bool:=decide ((k.rights.tdiv 2).tmod 2=1)
def iV (L:List Obj) (o:Obj) (k:Key) (i:Int):Key:=if yj k then tt (ah L (o.slots.at i.toNat))else ah L (o.slots.at i.toNat)
def ea (L:List Obj) (k:Key) (i:Int):Key:=iV L (aq L k.oid.toNat free) k i
def mY (k:Key) (i:Int):Prop:=0<=i/\i<16/\aW k=true
def me (i:Int):Bool:=decide (0<=i)&&decide (i<16)
def cH (L:List Obj) (k:Key) (i:Int):Int:=if aS L k 2 false=0 then(if me i then 0 else 4)else aS L k 2 false
def aK (L:List Obj) (k:Key) (i:Int):Key:=if cH L k i=0 then ea L k i else void
def bQ (L:List Obj) (v:Key):Bool:=aW v&&decide (cM v<(an L:Int))
def bE (L:List Obj) (k:Key) (i:Int) (v:Key):Int:=if aS L k 2 true=0 then(if me i then(if bQ L v then 0 else 2)else 4)else aS L k 2 true
def eu (L:List Obj) (k:Key) (i:Int) (v:Key):Key:=if bE L k i v=0 then ea L k i else void
def fB (o:Obj) (s:bV):Obj:= {o with slots:=s}
def tJ (L:List Obj) (k:Key) (s:bV):List Obj:=dh L k.oid.toNat (fB (aq L k.oid.toNat free) s)
def dN (L:List Obj) (k:Key) (i:Int) (v:Key):List Obj:=if bE L k i v=0 then tJ L k ((aq L k.oid.toNat free).slots.put i.toNat (ah L v))else L
def ga (L:List Obj) (k:Key):List Obj:=if aS L k 2 true=0 then tJ L k fY else L
def cc (L:List Obj) (t f:Key):Int:=if aS L t 2 true=0 then aS L f 2 false else aS L t 2 true
def fq (L:List Obj) (t f:Key) (g:Int):bV:=(List.range g.toNat).foldl (fun s (j:Nat)=>s.put j (ea L f (j:Int))) (aq L t.oid.toNat free).slots
def fz (L:List Obj) (t f:Key):List Obj:=if cc L t f=0 then tJ L t (fq L t f 16)else L
def aw (L:List Obj):Prop:=zd L=true
def uV (g:Int):Prop:=0<=g/\g<=16
def kA:Arg Key:=AJ rK V.key
def iA:Arg Int:=AJ (rI .i64) (V.it .i64)
def bA:Arg Bool:=AJ toBool V.bo
def oA:Arg Obj:=AJ rO V.ob
def sA:Arg (Option (List Obj)):=T3 tS eS
def An (o:Option (List Obj)):List Obj:=match o with
 |none=> []
 |some L=>L
def nB:lH (Obj×Option (List Obj)×Key×Unit):=bI oA (bI sA (bI kA kK))
def Qc:Ct:=Ci (bI (RS nB) (bI iA kK)) (fun x=>some (mY x.1.2.2.1 x.2.1)) fun x=> .key (iV (An x.1.2.1) x.1.1 x.1.2.2.1 x.2.1)
def QU:Ct:=Ci (bI sA (bI kA (bI iA kK))) (fun _=>none) fun x=> .tp [.key (aK (An x.1) x.2.1 x.2.2.1),.it .i64 (cH (An x.1) x.2.1 x.2.2.1)]
theorem Lu {r m g:Int}:0<=vf r m g/\vf r m g<=7:=by
 unfold vf;repeat' split
 all_goals omega
theorem HJ {r:Int} (h0:0<=r) (h1:r<=7):aY .or .i64 r 3=jr r 3:=by
 have:r=0\/r=1\/r=2\/r=3\/r=4\/r=5\/r=6\/r=7:=by omega
 rcases this with rfl|rfl|rfl|rfl|rfl|rfl|rfl|rfl<;>decide
theorem Ao {r:Int} (h0:0<=r) (h1:r<=1):aY .or .i64 r 1=1:=by
 have:r=0\/r=1:=by omega
 rcases this with rfl|rfl<;>decide
theorem gC {k:Key} (h:aW k=true):0<=k.rights/\k.rights<=ef k.kind:=by
 simp only[aW,VK,VL]at h;omega
theorem nK:aW void=true:=by decide
theorem nH (L:List Obj) (k:Key):aW (ah L k)=true:=by
 unfold ah;split
 ·exact nK
 ·rename_i h;simp only[Bool.or_eq_true,not_or,Bool.not_eq_true,Bool.not_eq_false']at h;exact h.1.2
theorem A2 (L:List Obj) (k:Key):gk (ah L k)=tt (ah L k):=by unfold gk;rw[nH,VR rfl]
theorem U4 {r:Int} (h0:0<=r) (h1:r<=7):decide (aY .and .i64 r 2=0)= !decide ((r.tdiv 2).tmod 2=1):=by
 have:r=0\/r=1\/r=2\/r=3\/r=4\/r=5\/r=6\/r=7:=by omega
 rcases this with rfl|rfl|rfl|rfl|rfl|rfl|rfl|rfl<;>decide
theorem NT {r:Int} (h0:0<=r) (h1:r<=7):decide (aY .and .i64 r 3=0)=decide (r.tmod 4=0):=by
 have:r=0\/r=1\/r=2\/r=3\/r=4\/r=5\/r=6\/r=7:=by omega
 rcases this with rfl|rfl|rfl|rfl|rfl|rfl|rfl|rfl<;>decide
theorem MS (n:Int):ef n<=7:=by unfold ef;split<;>(try split)<;>omega
theorem oZ {k:Key} (h:aW k=true):0<=k.rights/\k.rights<=7:=by
 have:=gC h;have:=MS k.kind;omega
theorem eF {L:List Obj} {k:Key} (h:aT L k=true):aW k=true/\0<=k.oid/\k.oid<(L.length:Int)/\aa L k=aq L k.oid.toNat free/\(aq L k.oid.toNat free).kind=iJ k:=by
 have h':=h;unfold aT at h;simp only[VK,VL]at h;obtain⟨⟨h1,h2⟩,h3⟩:=h;have hb:=mZ.1 h2;have hn:0<=cM k:=(xh h').1;simp only[cw,VK,Bool.or_eq_true,VL]at h3;refine⟨h3.1,hb.1,hb.2,by unfold aa;rw[h',VR rfl],?_⟩
 rcases h3.2 with h|h
 ·omega
 ·exact h.1.1
theorem DW {L:List Obj} {o:Obj} {k:Key} {i:Int} (hq:mY k i):(0<=i/\i< ↑16)/\
  ((!decide (aY BinOp.and IntKind.i64 k.rights 2=0))=true->gk (ah L (o.slots.at i.toNat))=iV L o k i)/\
    ((!decide (aY BinOp.and IntKind.i64 k.rights 2=0))=false->ah L (o.slots.at i.toNat)=iV L o k i):=by
 obtain⟨h0,h1,h2⟩:=hq;have hr:=oZ h2;rw[U4 hr.1 hr.2,A2];unfold iV yj;refine⟨⟨h0,by omega⟩,fun h=>?_,fun h=>?_⟩
 ·rw[VR (by simpa using h)]
 ·rw[VQ (by simpa using h)]
theorem kE {L:List Obj} {k:Key} {d:Int} {c:Bool} (h:aS L k d c=0):aT L k=true/\k.kind=d/\(c=true->k.rights.tmod 4=0):=by
 unfold aS at h;split at h
 ·omega
 ·split at h
  ·omega
  ·rename_i h2;simp only[Bool.or_eq_true,Bool.not_eq_true',decide_eq_false_iff_not,not_or,Bool.not_eq_false,Decidable.not_not]at h2;split at h
   ·omega
   ·rename_i h3;refine⟨h2.1,h2.2,fun hc=>?_⟩
    simpa[hc]using h3
theorem mC:lY kA:=qp iw (fun _=>rfl) fun v x h=>Tc h
theorem Pb:lY oA:=qp Bk (fun _=>rfl) fun v x h=>by cases v<;>simp[rO]at h;rfl
theorem Pm:lY bA:=qp Ky (fun _=>rfl) fun v x h=>by cases v<;>simp[toBool]at h<;>rfl
theorem fP:lY iA:=qp (gJ .i64) (fun _=>rfl) fun v x h=>by cases v<;>simp[rI,toInt]at h<;>rfl
theorem qL:lY sA:=Qz _ _
theorem SP:iC nB:=aQ Pb (aQ qL (aQ mC dU))
def Ae (x:V) (M:List Obj) (v:V) (r:List aC):Prop:=
 match ar r 0 with
 | .store t e L=>if t==tS&&e==eS then nE x v r/\L=M else False
 |_=>False
theorem EL {x:V} {M:List Obj} {v:V} {r:List aC} (h:Ae x M v r):wv x v r/\ar r 0= .store tS eS M:=by
 unfold Ae at h;split at h
 ·rename_i hr;split at h
  ·rename_i hc;simp only[VK,VM]at hc;obtain⟨rfl,rfl⟩:=hc;obtain⟨h1,rfl⟩:=h;exact⟨cO h1,hr⟩
  ·exact h.elim
 ·exact h.elim
def Gs {α:Type} (B:List V->Option α) (Q:List Obj->α->Prop) (F:List Obj->α->V) (M:List Obj->α->List Obj):nz:=fun args res K=>
 match args with
 |a::l=>match B l with
  |some x=>match a with
   | .nl v=>match v with
     | .pointer none=>K (F [] x) res
     |_=>False
   | .lp k off=>if off==0 then match ar res k with
     | .store t e L=>if t==tS&&e==eS then Q L x/\K (F L x) (bw res k (.store tS eS (M L x)))else False
     | .blk t c=>if t==tS&&S1 c then K (F [] x) res else False
     |_=>False
     else False
   |_=>False
  |none=>False
 |_=>False
def TB:V:= .ag [.nl (.slice none 0 0)]
theorem lO {P:Program} {f:Nat} {α:Type} {B:List V->Option α} {m:α->List V} {Q:List Obj->α->Prop} {F:List Obj->α->V} {M:List Obj->α->List Obj} (hB:∀l x,B l=some x->ep l (m x)) (hid:∀x,la (m x)=true) (hF:∀L x,jJ (F L x)=true)
  (h0:∀x,ak P f (gT::m x) [] (nE (F [] x)) (fun _ _=>False)) (hz:∀x,ak P f (.lp 0 0::m x) [.ro (.blk tS TB)] (nE (F [] x)) (fun _ _=>False))
  (h1:∀L x,Q L x->(∀o∈L,o.wf)->L.length<=9223372036854775807->ak P f (.lp 0 0::m x) [.store tS eS L] (Ae (F L x) (M L x)) (fun _ _=>False)):oM P f (Gs B Q F M):=by
 intro args res K KP h;unfold Gs at h;split at h
 case h_2=>exact h.elim
 split at h
 case h_2=>exact h.elim
 rename_i x hx;refine ak.args (ep.kL (hB _ _ hx)) ?_;split at h
 ·split at h
  ·exact ak.pure (by simp only[la,jJ,Bool.true_and];exact hid x) (hF _ _) ((h0 x).mono (fun _ _ h=>cO h) fun _ _ h=>h) h
  ·exact h.elim
 ·split at h
  ·rename_i hoff;have hoff:=VM.1 hoff;subst hoff;split at h
   ·rename_i hr;split at h
    ·rename_i hc;simp only[VK,VM]at hc;obtain⟨rfl,rfl⟩:=hc;refine ak.zw hr (hid x) (hF _ _) (ak.fact (k:=0) rfl fun w1 w2=>(h1 _ x h.1 w1 w2).mono (fun v r hv=>EL hv |> fun⟨a,b⟩=>⟨fun J K=>a J K,b⟩) fun _ _ h=>h) h.2
    ·exact h.elim
   ·rename_i hr;split at h
    ·rename_i hc;simp only[VK,VM]at hc;obtain⟨rfl,hz'⟩:=hc;have:=wE hz';subst this;exact ak.Ko (r0:= .blk tS TB) (by unfold cU;rw[hr];rfl) (by simp) (fun κ=>rfl) (hid x) (hF _ _) ((hz x).mono (fun _ _ h=>cO h) fun _ _ h=>h) h
    ·exact h.elim
   ·exact h.elim
  ·exact h.elim
 ·exact h.elim
def TR (l:List V):Option Key:=match l with
 | [a]=>rK a
 |_=>none
def Nc (l:List V):Option (Key×Key):=match l with
 | [a,b]=>match rK a with
   |some k=>match rK b with
    |some k'=>some (k,k')
    |none=>none
   |none=>none
 |_=>none
def KK (l:List V):Option (Key×Int×Key):=match l with
 | [a,b,c]=>match rK a with
   |some k=>match rI .i64 b with
    |some i=>match rK c with
     |some k'=>some (k,i,k')
     |none=>none
    |none=>none
   |none=>none
 |_=>none
theorem HR:∀l x,TR l=some x->ep l [.key x]:=fun l x h=>by
 unfold TR at h;split at h
 ·exact ep.rd iw h ep.nil
 ·simp at h
theorem D4:∀l x,Nc l=some x->ep l [.key x.1,.key x.2]:=fun l x h=>by
 unfold Nc at h;split at h
 ·split at h
  ·rename_i h1;split at h<;>simp only[VI,reduceCtorEq]at h
   rename_i h2;subst h;exact ep.rd iw h1 (ep.rd iw h2 ep.nil)
  ·simp at h
 ·simp at h
theorem Ik:∀l x,KK l=some x->ep l [.key x.1,.it .i64 x.2.1,.key x.2.2]:=fun l x h=>by
 unfold KK at h;split at h
 ·split at h
  ·rename_i h1;split at h
   ·rename_i h2;split at h<;>simp only[VI,reduceCtorEq]at h
    rename_i h3;subst h;exact ep.rd iw h1 (ep.rd (gJ .i64) h2 (ep.rd iw h3 ep.nil))
   ·simp at h
  ·simp at h
 ·simp at h
def tK:Nat:=44
def zb (g:Int):Nat:=(16-g).toNat
def RB:nz:=Gs KK (fun L _=>aw L) (fun L x=> .tp [.key (eu L x.1 x.2.1 x.2.2),.it .i64 (bE L x.1 x.2.1 x.2.2)]) fun L x=>dN L x.1 x.2.1 x.2.2
def Pw:nz:=Gs TR (fun L _=>aw L) (fun L x=> .it .i64 (aS L x 2 true)) fun L x=>ga L x
def PG:nz:=Gs Nc (fun L _=>aw L) (fun L x=> .it .i64 (cc L x.1 x.2)) fun L x=>fz L x.1 x.2
theorem HY {L:List Obj} {k:Key} {d:Int} {c:Bool} (h:(!decide (0<aj L))=true):aS L k d c=1:=by
 unfold aS;unfold aj at h;rw[VR (by simp at h;omega)]
theorem FN {L:List Obj} {k:Key} {d:Int} {c:Bool} (h:(!decide (0<aj L))=false) (h2:(!(aT L k&&decide (k.kind=d)))=true):aS L k d c=190:=by
 unfold aS;unfold aj at h;rw[VQ (by simp at h;omega),VR (by simpa using h2)]
theorem lV {L:List Obj} {k:Key} {d:Int} (h2:(!(aT L k&&decide (k.kind=d)))=false):aT L k=true/\k.kind=d:=by simpa using h2
theorem PZ {L:List Obj} {k:Key} {d:Int} (h:(!decide (0<aj L))=false) (h2:(!(aT L k&&decide (k.kind=d)))=false) (h3:(!decide (aY BinOp.and IntKind.i64 k.rights 3=0))=true):aS L k d true=191:=by
 have hr:=oZ (eF (lV h2).1).1;rw[NT hr.1 hr.2]at h3;unfold aS;unfold aj at h;rw[VQ (by simp at h;omega),VQ (by simpa using h2),VR (by simpa using h3)]
theorem Gk {L:List Obj} {k:Key} {d:Int} (h:(!decide (0<aj L))=false) (h2:(!(aT L k&&decide (k.kind=d)))=false) (h3:(!decide (aY BinOp.and IntKind.i64 k.rights 3=0))=false):aS L k d true=0:=by
 have hr:=oZ (eF (lV h2).1).1;rw[NT hr.1 hr.2]at h3;unfold aS;unfold aj at h;rw[VQ (by simp at h;omega),VQ (by simpa using h2),VQ (by simpa using h3)]
theorem E0 {L:List Obj} {k:Key} {d:Int} (h:(!decide (0<aj L))=false) (h2:(!(aT L k&&decide (k.kind=d)))=false):aS L k d false=0:=by
 unfold aS;unfold aj at h;rw[VQ (by simp at h;omega),VQ (by simpa using h2),VQ (by simp)]
def cz (n:Int) (k:Key):Prop:=aW k=true/\cM k<n
theorem IQ {n:Int} {k:Key}:kM 1 n k=true↔cz n k:=by simp[kM,cz]
theorem Ho (r:Int):0<=jr r 3/\jr r 3<=7:=Lu
theorem Hi {n:Int} (hn:0<=n) {k:Key} (h:cz n k):cz n (tt k):=by
 obtain⟨h1,h2⟩:=h;have hv:cz n void:=⟨nK,by have:=lu.2;omega⟩
 unfold tt;split
 ·rename_i e;have hw:=Ho k.rights
  have h1':aW (cA k (jr k.rights 3))=true:=by
   simp only[aW,cA,e,VK,VL]at h1⊢;have:ef 2=7:=rfl;grind
  refine⟨h1',?_⟩;unfold cM at h2⊢;rw[h1'];rw[h1]at h2;exact h2
 ·split
  ·rename_i e
   have h1':aW (cA k 1)=true:=by
    simp only[aW,cA,e,VK,VL]at h1⊢;have:ef 3=1:=rfl;grind
   refine⟨h1',?_⟩;unfold cM at h2⊢;rw[h1'];rw[h1]at h2;exact h2
  ·split
   ·exact⟨h1,h2⟩
   ·exact hv
theorem ny {L:List Obj} (hL:0<L.length) (k:Key):cz (L.length:Int) (ah L k):=by
 have hv:cz (L.length:Int) void:=⟨nK,by have:=lu.2;omega⟩
 unfold ah;split
 ·exact hv
 ·rename_i h;simp only[Bool.or_eq_true,not_or,Bool.not_eq_true,Bool.not_eq_false',Bool.and_eq_false_imp]at h;refine⟨h.1.2,?_⟩;rcases mE k with⟨a,b,c⟩|⟨a,b⟩
  ·rw[b];exact(eF (h.2 a)).2.2.1
  ·omega
theorem Nx {L:List Obj} (hL:0<L.length) (k:Key) (i:Int):cz (L.length:Int) (ea L k i):=by
 unfold ea iV;split
 ·exact Hi (by omega) (ny hL _)
 ·exact ny hL _
theorem wG {o:Obj} {n:Int} {s:bV} (h:bu o n=true) (hk:o.kind=1) (hs:∀i,i<16->cz n (s.at i)):bu (fB o s) n=true:=by
 rw[eo]at h⊢;simp only[fB];obtain⟨a1,a2,a3,a4,a5,a6,a7,a8,a9,a10,a11⟩:=h;exact⟨a1,a2,a3,a4,a5,a6,a7,a8,a9,fun i hi=>by rw[hk];exact IQ.2 (hs i hi),fun i hi=> .inl (.inl hk)⟩
theorem yG {L:List Obj} {k:Key} (h:aT L k=true) (h2:k.kind=2):(aq L k.oid.toNat free).kind=1:=by
 rw[(eF h).2.2.2.2];unfold iJ;rw[VQ (by have:=(xh h).1;omega),VQ (by omega)]
theorem xb {L:List Obj} {k:Key} (hL:aw L) (h:aT L k=true) (h2:k.kind=2):∀i,i<16->cz (L.length:Int) ((aq L k.oid.toNat free).slots.at i):=fun i hi=>by
 obtain⟨_,b2,b3,_⟩:=eF h;have:=(fH.1 hL).2.2 k.oid.toNat (by omega)
 have:=(eo.1 this).2.2.2.2.2.2.2.2.2.1 i hi;rw[yG h h2]at this;exact IQ.1 this
theorem nu {L:List Obj} {k:Key} {s:bV} (hL:aw L) (h:aT L k=true) (h2:k.kind=2) (hs:∀i,i<16->cz (L.length:Int) (s.at i)):bP L k.oid (fB (aa L k) s)=tJ L k s/\aw (tJ L k s):=by
 obtain⟨b1,b2,b3,b4,_⟩:=eF h;have hr:=fH.1 hL;have ho:=wG (hr.2.2 k.oid.toNat (by omega)) (yG h h2) hs
 refine⟨?_,?_⟩
 ·rw[b4];exact(rX (mZ.2 ⟨b2,b3⟩) (rN ho).symm).2
 ·refine fH.2 ?_;unfold tJ;have hl:(dh L k.oid.toNat (fB (aq L k.oid.toNat free) s)).length=L.length:=by simp[dh]
  rw[hl];refine⟨hr.1,hr.2.1,fun i hi=>?_⟩
  by_cases e:i=k.oid.toNat
  ·subst e;rw[show aq (dh L k.oid.toNat (fB (aq L k.oid.toNat free) s)) k.oid.toNat free=fB (aq L k.oid.toNat free) s by simp[aq,dh,VP,hi]]
   exact ho
  ·rw[show aq (dh L k.oid.toNat (fB (aq L k.oid.toNat free) s)) i free=aq L i free by simp[aq,dh,VP,List.getElem?_set,Ne.symm e]]
   exact hr.2.2 i hi
theorem B1 {L:List Obj} {k:Key} {i:Int} {v:Key} (hL:aw L) (h:aT L k=true) (h2:k.kind=2) (h0:0<=i) (h1:i<16):∀j,j<16->cz (L.length:Int) (((aq L k.oid.toNat free).slots.put i.toNat (ah L v)).at j):=fun j hj=>by
 rw[bV.eR _ _ _ _ (by omega)]
 split
 ·exact ny (fH.1 hL).1 v
 ·exact xb hL h h2 j hj
theorem DU {n:Int} (hn:0<=n):∀j,j<16->cz n (fY.at j):=fun j hj=>by
 rw[EP.1 rfl j hj];exact⟨nK,by have:=lu.2;omega⟩
theorem sG (L:List Obj) (v:Key):(decide (bT v=0)&&(!aU v||decide (bJ v<aj L)))=bQ L v:=by
 unfold bQ bT bJ aj;rcases mE v with⟨a,b,c⟩|⟨a,b⟩
 ·rw[a,b];cases aW v<;>simp
 ·rw[a,b];have:(-1:Int)<(an L:Int):=by omega
  cases aW v<;>simp[this]
theorem yi {L:List Obj} {t f:Key} {g:Int} (h0:0<=g):fq L t f (g+1)=(fq L t f g).put g.toNat (ea L f g):=by
 unfold fq;rw[show(g+1).toNat=g.toNat+1 by omega,List.range_succ,List.foldl_append]
 simp only[List.foldl_cons,List.foldl_nil];rw[show((g.toNat:Nat):Int)=g by omega]
theorem H3 {L:List Obj} {t f:Key} (h:aa L t=aq L t.oid.toNat free):aa L t=fB (aa L t) (fq L t f 0):=by
 unfold fq fB;simp[h]
theorem Jt {L:List Obj} {t f:Key} {g:Int} (h0:0<=g) (h:aa L f=aq L f.oid.toNat free) (o:Obj) (s:bV):({kind:=(fB o (fq L t f g)).kind,count:=(fB o (fq L t f g)).count,calls:=(fB o (fq L t f g)).calls,slots:=(fB o (fq L t f g)).slots.put g.toNat (iV L (aa L f) f g),bytes:=(fB o (fq L t f g)).bytes}:Obj)=fB o (fq L t f (g+1)):=by
 rw[yi h0];unfold ea;rw[h];rfl
theorem wc {L:List Obj} {t f:Key} (hL:aw L) (h:aT L t=true) (h2:t.kind=2):∀n:Nat,n<=16->∀j,j<16->cz (L.length:Int) ((fq L t f n).at j)
 |0,_,j,hj=>by
  unfold fq;exact xb hL h h2 j hj
 |n+1,hn,j,hj=>by
  rw[show((n+1:Nat):Int)=(n:Int)+1 by omega,yi (by omega),bV.eR _ _ _ _ (by omega)]
  split
  ·exact Nx (fH.1 hL).1 _ _
  ·exact wc hL h h2 n (by omega) j hj
structure Ty where
 kind:Int
 slot:Int
 key:Key
 other:Key
def wI (L:List Obj) (a:Ty):Bool:=
 if a.kind=1 then false else if a.kind=2 then decide (bE L a.key a.slot a.other=0)else if a.kind=3 then decide (aS L a.key 2 true=0)else if a.kind=4 then decide (cc L a.key a.other=0)else false
def D8 (L:List Obj) (a:Ty):List Obj:=
 if a.kind=1 then L else if a.kind=2 then dN L a.key a.slot a.other else if a.kind=3 then ga L a.key else if a.kind=4 then fz L a.key a.other else L
theorem sE (k:Key):GR k k=true:=by simp[GR]
def Ty.wf (x:Ty):Prop:=cj .i64 x.kind/\cj .i64 x.slot/\x.key.wf/\x.other.wf
theorem ko (L:List Obj):cX L L=true:=by unfold cX;simp
theorem C2 {L:List Obj} {k:Key} {i:Int} {v:Key} (h:bE L k i v=0):aS L k 2 true=0/\0<=i/\i<16:=by
 unfold bE me at h;split at h
 ·rename_i h1;split at h
  ·rename_i h2;simp at h2;exact⟨h1,h2.1,h2.2⟩
  ·omega
 ·rename_i h1;exact absurd h h1
theorem wi {L:List Obj} {a:Ty} (hL:aw L) (h:wI L a=true):aw (D8 L a):=by
 unfold wI at h;unfold D8;split at h
 ·simp at h
 ·rename_i h1;rw[VQ h1];split at h
  ·rename_i h2;rw[VR h2];have h:=VO h;obtain⟨e1,e2,e3⟩:=C2 h;obtain⟨a1,a2,_⟩:=kE e1;unfold dN;rw[VR h];exact(nu hL a1 a2 (B1 hL a1 a2 e2 e3)).2
  ·rename_i h2;rw[VQ h2];split at h
   ·rename_i h3;rw[VR h3];have h:=VO h;obtain⟨a1,a2,_⟩:=kE h;unfold ga;rw[VR h];exact(nu hL a1 a2 (DU (by omega))).2
   ·rename_i h3;rw[VQ h3];split at h
    ·rename_i h4;rw[VR h4];have h:=VO h;have h':=h;unfold cc at h';split at h'
     ·rename_i h5;obtain⟨a1,a2,_⟩:=kE h5;unfold fz;rw[VR h];exact(nu hL a1 a2 (wc hL a1 a2 16 (by omega))).2
     ·rename_i h5;exact absurd h' h5
    ·simp at h
section
variable {L:List Obj} {k:Key} {s:bV} (h0:0<=k.oid) (h1:k.oid<(L.length:Int))
include h0 h1
end
theorem fK {L:List Obj} {j:Int} (h0:0<=j) (h1:j<(L.length:Int)):aD L j=aq L j.toNat free:=by
 unfold aD;rw[VR (mZ.2 ⟨h0,h1⟩)]
theorem eO {L:List Obj} {i:Nat} {x:Obj} (hi:i<L.length) (j:Nat):aq (dh L i x) j free=if j=i then x else aq L j free:=by
 by_cases e:j=i
 ·subst e;rw[VR rfl];simp[aq,dh,VP,hi]
 ·rw[VQ e];simp[aq,dh,VP,List.getElem?_set,Ne.symm e]
theorem gP {L:List Obj} {i:Nat} {x:Obj}:(dh L i x).length=L.length:=by simp[dh]
end Go.Sx
set_option maxRecDepth 100000
namespace Go.Sx
theorem oy {κ:Nat->Option Nat} {x a:V} {l m:List V} (h1:eZ κ x=some a) (h2:dS κ l=some m):dS κ (x::l)=some (a::m):=by
 simp only[dS];rw[h1];simp only;rw[h2]
end Go.Sx
set_option maxRecDepth 100000
namespace Go.Sx
def GP {α:Type} (B:lH α) (l:List V):Option α:=match B.rd [] l with
 |some p=>match p.1 with
  | []=>some p.2
  |_=>none
 |none=>none
theorem nW {α:Type} {B:lH α} (hB:iC B) (hid:∀a,la (B.cn a 0)=true):∀l x,GP B l=some x->ep l (B.cn x 0):=fun l x h=>by
 unfold GP at h;split at h
 case h_2=>simp at h
 rename_i p hp;obtain⟨pls,a⟩:=p;split at h
 case h_2=>simp at h
 rename_i h1;simp only at h1;subst h1;simp only[VI]at h;subst h;obtain⟨_,_,_,b4⟩:=hB _ _ _ _ hp;obtain⟨c1,c2⟩:=b4 [] [];intro J K hk;have e1:=(c1 J K hk).1;have e2:=c2 K hk;have e3:eH (fun _=>False) (B.cn a 0):=mP _ (hid a) e2
 refine⟨?_,mP _ (hid a) e2⟩;rw[<-e1];exact eU (N:=fun _=>False) (fun _ h=>h.elim) _ e3
theorem H9 {κ:Nat->Option Nat} {p j:Nat} {bs F:List V} {r:List aC} (hκ:κ p=some j) (hF:la F=true) (hb:nE (.tp F) (.tp bs) r):j7 κ (.tp (.sa p::bs)) (.tp (.sa j::F)):=by
 intro ρ2 ρ3 N N' h1 h2 hv;obtain⟨hp,hbs⟩:=hv;obtain⟨e1,e2,_⟩:=cO hb ρ2 N;obtain⟨a1,a2,a3,a4,a5,a6⟩:=h1 p j hκ;have hFN:eH N F:=e2 hbs;have hF0:eH (fun _=>False) F:=mP _ hF hFN
 have e3:bj ρ3 F=bj ρ2 F:=eU (N:=fun _=>False) (fun _ h=>h.elim) _ hF0
 simp only[den,Value.tuple.injEq]at e1;have e1:bj ρ2 bs=bj ρ2 F:=by simpa using e1
 refine⟨?_,h2 p j hκ hp,mP _ hF hFN⟩;simp only[den,bj,e3,e1,a2,a4,a5]
def RM {α:Type} (B:List V->Option α) (R:α->Prop) (Q:List Obj->α->Prop) (F:List Obj->α->V) (M:List Obj->α->List Obj):nz:=fun args res K=>
 match args with
 |a::l=>match B l with
  |some x=>R x/\match a with
   | .nl v=>match v with
     | .pointer none=>K (F [] x) res
     |_=>False
   | .lp k off=>if off==0 then match ar res k with
     | .store t e L=>if t==tS&&e==eS then Q L x/\K (F L x) (bw res k (.store tS eS (M L x)))else False
     | .blk t c=>if t==tS&&S1 c then K (F [] x) res else False
     |_=>False
     else False
   |_=>False
  |none=>False
 |_=>False
theorem zF {P:Program} {f:Nat} {α:Type} {B:List V->Option α} {m:α->List V} {R:α->Prop} {Q:List Obj->α->Prop} {F:List Obj->α->V} {M:List Obj->α->List Obj} (hB:∀l x,B l=some x->ep l (m x)) (hid:∀x,la (m x)=true) (hF:∀L x,jJ (F L x)=true)
  (h0:∀x,R x->ak P f (gT::m x) [] (nE (F [] x)) (fun _ _=>False)) (hz:∀x,R x->ak P f (.lp 0 0::m x) [.ro (.blk tS TB)] (nE (F [] x)) (fun _ _=>False))
  (h1:∀L x,Q L x->ak P f (.lp 0 0::m x) [.store tS eS L] (Ae (F L x) (M L x)) (fun _ _=>False)):oM P f (RM B R Q F M):=by
 intro args res K KP h;unfold RM at h;split at h
 case h_2=>exact h.elim
 split at h
 case h_2=>exact h.elim
 rename_i x hx;obtain⟨hR,h⟩:=h;refine ak.args (ep.kL (hB _ _ hx)) ?_;split at h
 ·split at h
  ·exact ak.pure (by simp only[la,jJ,Bool.true_and];exact hid x) (hF _ _) ((h0 x hR).mono (fun _ _ h=>cO h) fun _ _ h=>h) h
  ·exact h.elim
 ·split at h
  ·rename_i hoff;have hoff:=VM.1 hoff;subst hoff;split at h
   ·rename_i hr;split at h
    ·rename_i hc;simp only[VK,VM]at hc;obtain⟨rfl,rfl⟩:=hc;exact ak.zw hr (hid x) (hF _ _) ((h1 _ x h.1).mono (fun v r hv=>EL hv |> fun⟨a,b⟩=>⟨fun J K=>a J K,b⟩) fun _ _ h=>h) h.2
    ·exact h.elim
   ·rename_i hr;split at h
    ·rename_i hc;simp only[VK,VM]at hc;obtain⟨rfl,hz'⟩:=hc;have:=wE hz';subst this;exact ak.Ko (r0:= .blk tS TB) (by unfold cU;rw[hr];rfl) (by simp) (fun κ=>rfl) (hid x) (hF _ _) ((hz x hR).mono (fun _ _ h=>cO h) fun _ _ h=>h) h
    ·exact h.elim
   ·exact h.elim
  ·exact h.elim
 ·exact h.elim
def c8 (n:Int):Key:=⟨1,0,0,0,0,n⟩
theorem cG {L:List Obj} (h:aw L) (j:Nat) (hj:j<L.length):bu (aq L j free) (L.length:Int)=true:=(fH.1 h).2.2 j hj
theorem iN {L:List Obj} (h:aw L):1<=L.length/\L.length<=64:=⟨(fH.1 h).1,(fH.1 h).2.1⟩
theorem HD {L M:List Obj} (h:aw L) (hl:M.length=L.length) (hm:∀j,j<L.length->bu (aq M j free) (L.length:Int)=true):aw M:=by
 obtain⟨a,b⟩:=iN h;unfold aw;rw[fH,hl];exact⟨a,b,hm⟩
theorem jk {L:List Obj} {i:Nat} {x:Obj} (h:aw L) (hx:bu x (L.length:Int)=true):aw (dh L i x):=by
 by_cases hi:i<L.length
 ·refine HD h gP fun j hj=>?_
  rw[eO hi];split
  ·exact hx
  ·exact cG h j hj
 ·rw[show dh L i x=L from List.set_eq_of_length_le (by omega)];exact h
theorem j8 {L:List Obj} {i:Int} {x:Obj} (h0:0<=i) (h1:i<(L.length:Int)) (hx:bu x (L.length:Int)=true):bP L i x=dh L i.toNat x/\eP L i x=0:=by
 have e:cI L i=0:=mZ.2 ⟨h0,h1⟩;have e2:dc x (an L:Int)=0:=by unfold dc;exact VR hx
 exact⟨(rX e e2).2,(rX e e2).1⟩
theorem M6 {n:Int} {s:bV} {k:Key} {j:Nat} (hj:j<16) (h:∀i,i<16->cz n (s.at i)) (hk:cz n k) (i:Nat) (hi:i<16):cz n ((s.put j k).at i):=by
 rw[bV.eR _ _ _ _ hj];split
 ·exact hk
 ·exact h i hi
theorem qi {n:Int} (hn:0<=n) (x:Int):cz n (c8 x):=by
 refine⟨by simp[c8,aW,ef,qA,gw,oJ,fa],?_⟩
 unfold cM;rw[show gw (c8 x).kind=false by simp[c8,gw]]
 simp;omega
theorem qs {o:Obj} {n:Int} (h:bu o n=true) (hk:o.kind=1) (i:Nat) (hi:i<16):cz n (o.slots.at i):=by
 obtain⟨a1,a2,a3,a4,a5,a6,a7,a8,a9,a10,a11⟩:=eo.1 h;have:=a10 i hi;rw[hk]at this;exact IQ.1 this
theorem sR (o:Obj):z0 o o=true:=by simp[z0]
end Go.Sx
