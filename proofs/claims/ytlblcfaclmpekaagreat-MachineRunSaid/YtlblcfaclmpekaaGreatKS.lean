import Derived.Test.YtlblcfaclmpekaaGreatKO
import Derived.Test.YtlblcfaclmpekaaGreatSxF
set_option linter.unusedSimpArgs false
set_option linter.unusedVariables false
namespace Go.Sx
def aU (L:List Obj):Bool:=decide (aq L=0)
def cI (L:List Obj) (oid:Int):Int:=if aq L=0 then 1 else if oid<0\/(aq L:Int)<=oid then 4 else 0
def aC (L:List Obj) (oid:Int):Obj:=if cI L oid=0 then ak L oid.toNat free else free
def ah (L:List Obj):Int:=(aq L:Int)
def aQ (L:List Obj) (k:Key):Bool:=aP k&&decide (cI L k.oid=0)&&ck k (ak L k.oid.toNat free)
def aa (L:List Obj) (k:Key):Obj:=if aQ L k then ak L k.oid.toNat free else free
def ae (L:List Obj) (k:Key):Key:=if aU L|| !aS k||(aP k&& !aQ L k)then void else k
def dW (n:Int):Bool:=decide (1<=n)&&decide (n<=64)
def jv (n:Int):List Obj:=List.replicate n.toNat free
def bO (L:List Obj) (i:Int) (o:Obj):List Obj:=if cI L i=0/\de o (aq L:Int)=0 then di L i.toNat o else L
def eU (L:List Obj) (i:Int) (o:Obj):Int:=if cI L i=0 then de o (aq L:Int)else cI L i
def Ae (l:List Obj):Bool:=decide (1<=aq l)&&decide (aq l<=64)&&(List.range (aq l)).all fun i=>bq (ak l i free) (aq l:Int)
def zX (n i:Int):Prop:=0<=i/\i<=n
abbrev tS:Nat:=102
abbrev eS:Nat:=106
def RY (c:Bool) (M:List Obj) (v:V) (r:List aB):Prop:=
 match v with
 | .tp l=>match l with
   | [a,b]=>match a with
     | .nl p=>match p with
       | .pointer none=>c=false/\nI (.ci .i64 2) b r
       |_=>False
     | .lp j off=>match Fo r j with
       |some (t,e,L)=>if off==0&&t==tS&&e==eS then c=true/\nI (.ci .i64 0) b r/\L=M else False
       |none=>False
     |_=>False
   |_=>False
 |_=>False
def Uu (n:Int):V->List aB->Prop:=RY (dW n) (jv n)
def TH (x:V) (M:List Obj) (v:V) (r:List aB):Prop:=
 match CY r 0 with
 |some (t,e,_,L)=>if t==tS&&e==eS then nI x v r/\L=M else False
 |none=>False
def OE:np:=fun args res K=>
 match args with
 | [a]=>match rI .i64 a with
   |some n=>(dW n=false->K (.tp [gX,.ci .i64 2]) res)/\(dW n=true->K (.tp [.lp res.length 0,.ci .i64 0]) (res++ [.store tS eS (jv n)]))
   |none=>False
 |_=>False
def R6 (c:V):Bool:=
 match c with
 | .ag l=>match l with
   | [x]=>match x with
     | .nl v=>match v with
       | .slice none 0 0=>true
       |_=>false
     |_=>false
   |_=>false
 |_=>false
theorem vr {c:V} (h:R6 c=true):c= .ag [.nl (.slice none 0 0)]:=by
 unfold R6 at h;split at h
 ·split at h
  ·split at h
   ·split at h
    ·rfl
    ·simp at h
   ·simp at h
  ·simp at h
 ·simp at h
def OU:np:=fun args res K=>
 match args with
 | [a,b,c]=>match rI .i64 b with
   |some i=>match rO c with
    |some o=>match a with
     | .nl v=>match v with
       | .pointer none=>K (.it .i64 (eU [] i o)) res
       |_=>False
     | .lp k off=>if off==0 then match an res k with
       | .store t e L=>if t==tS&&e==eS then K (.it .i64 (eU L i o)) (br res k (.store tS eS (bO L i o)))else False
       | .blk t c=>if t==tS&&R6 c then K (.it .i64 (eU [] i o)) res else False
       |_=>False
       else False
     |_=>False
    |none=>False
   |none=>False
 |_=>False
structure U7 where
 puts:Bool
 oid:Int
 ob:Obj
def U7.wf (x:U7):Prop:=cj .i64 x.oid/\x.ob.wf
def Oj:Ct:=RP (.bo true)
def fE (L M:List Obj):Bool:=decide (L=M)
def eg (L M:List Obj) (g:Int):List Int:=((List.range g.toNat).filter fun j=> !z9 (ak L j free) (ak M j free)).map Int.ofNat
def iL (L M:List Obj):Bool:=aU L||aU M|| !decide ((aq L:Int)=(aq M:Int))
def cq (L M:List Obj):List Int:=eg L M (aq L:Int)
def ki (L:List Obj) (g:Int):List Obj:=L.take g.toNat
def jP (L:List Obj) (g:Int):Prop:=0<=g/\g<=(aq L:Int)
abbrev RS:V:= .nl (.slice none 0 0)
abbrev tI:Nat:=3
def AD (L:List Obj) (v:V) (r:List aB):Prop:=
 match v with
 | .nl p=>match p with
   | .pointer none=>aU L=true
   |_=>False
 | .lp j off=>match Fo r j with
   |some (t,e,M)=>if off==0&&t==tS&&e==eS&&Nat.ble 1 j then aU L=false/\M=L else False
   |none=>False
 |_=>False
def Kt (L M:List Obj) (v:V) (r:List aB):Prop:=
 match v with
 | .nl p=>match p with
   | .slice none 0 0=>iL L M=true
   |_=>False
 | .sa j=>match an r j with
   | .arr own esz l=>match own with
     |some e=>match l with
      | .it k l=>match k with
        | .i64=>if e==tI&&esz==1&&Nat.ble 2 j then iL L M=false/\l=cq L M else False
        |_=>False
      |_=>False
     |none=>False
   |_=>False
 |_=>False
def KQ:np:=fun args res K=>
 match args with
 | [a]=>match a with
   | .nl v=>match v with
     | .pointer none=>K gX res
     |_=>False
   | .lp k off=>if off==0 then match cT res k with
     | .store t e L=>if t==tS&&e==eS then aq L<=1000/\(aU L=true->K gX res)/\(aU L=false->K (.lp res.length 0) (res++ [.store tS eS L]))else False
     |_=>False
     else False
   |_=>False
 |_=>False
def OP:np:=fun args res K=>
 match args with
 | [a,b]=>match b with
   | .lp j off=>if off==0 then match cT res j with
     | .store t e M=>if t==tS&&e==eS then match a with
       | .nl v=>match v with
         | .pointer none=>K RS res
         |_=>False
       | .lp k off'=>if off'==0&& !(k==j)then match cT res k with
         | .store t e L=>if t==tS&&e==eS then aq L<=1000/\(iL L M=true->K RS res)/\(iL L M=false->K (.sa res.length) (res++ [.arr (some tI) 1 (.it .i64 (cq L M))]))else False
         |_=>False
         else False
       |_=>False
       else False
     |_=>False
     else False
   |_=>False
 |_=>False
def EC:Ct:=fun res nid xs=>match xs with
 | [a]=>match rS tS eS res a with
   |some (o,L)=>match o with
    |none=>some (none,.cb true,[])
    |some _=>some (none,.bo (aU L),[])
   |none=>none
 |_=>none
def wa (L:List Obj):Prop:=aq L<=1000
def Nz:Ct:=QI tS eS (fun L M=>wa L/\wa M) fun L M=> .bo (fE L M)
theorem jG {α:Type} (l:List α):b6 (aq l)=(l.length:Int):=rfl
theorem pb {α:Type} (l:List α):((aq l:Nat):Int)=(l.length:Int):=rfl
def Cr:Ct:=Rk tS eS fun L=> .bo (aU L)
def SG:Ct:=Gz tS eS (rI .i64) fun L i=> .it .i64 (cI L i)
def SV:Ct:=Gz tS eS (rI .i64) fun L i=> .tp [.ob (aC L i),.it .i64 (cI L i)]
def DF:Ct:=Rk tS eS fun L=> .it .i64 (ah L)
def Oc:Ct:=Gz tS eS rK fun L k=> .tp [.ob (aa L k),.bo (aQ L k)]
def Qk:Ct:=Gz tS eS rK fun L k=> .key (ae L k)
theorem zy {n:Nat} (h:n<1000):oR n 8:=by unfold oR;simp only[maxLen];omega
theorem JY {L:List Obj} {g:Int} (h0:0<=g) (h1:g<(L.length:Int)):gx (ki L g) (ak L g.toNat free)=ki L (g+1):=by
 unfold gx ki ak;rw[show(g+1).toNat=g.toNat+1 by omega,List.take_add_one,VL,List.getElem?_eq_getElem (by omega)];rfl
theorem II {L:List Obj} {g:Int} (h:(L.length:Int)<=g):ki L g=L:=by unfold ki;rw[List.take_of_length_le (by omega)]
theorem Ii {L:List Obj} {g:Int}:aq (ki L g)<=g.toNat:=by unfold aq ki;rw[List.length_take];omega
theorem A7 {L M:List Obj} {g:Int}:aq (eg L M g)<=g.toNat:=by
 unfold aq eg;rw[List.length_map];exact Nat.le_trans (List.length_filter_le _ _) (by rw[List.length_range];omega)
theorem Cd {L M:List Obj} {g:Int} (h0:0<=g) (h:(!z9 (ak L g.toNat free) (ak M g.toNat free))=true):gx (eg L M g) g=eg L M (g+1):=by
 unfold gx eg;rw[show(g+1).toNat=g.toNat+1 by omega,List.range_succ,List.filter_append,List.map_append]
 simp only[List.filter_cons,h,if_true,List.filter_nil,List.map_cons,List.map_nil];congr 2
 show g=((g.toNat:Nat):Int)
 omega
theorem EP {L M:List Obj} {g:Int} (h0:0<=g) (h:(!z9 (ak L g.toNat free) (ak M g.toNat free))=false):eg L M g=eg L M (g+1):=by
 unfold eg;rw[show(g+1).toNat=g.toNat+1 by omega,List.range_succ,List.filter_append,List.map_append]
 simp only[List.filter_cons,h,Bool.false_eq_true,if_false,List.filter_nil,List.map_nil,List.append_nil]
theorem NA {L M:List Obj} (h:L.length=M.length):cq L M= []↔L=M:=by
 unfold cq eg;rw[List.map_eq_nil_iff,List.filter_eq_nil_iff];simp only[List.mem_range,Bool.not_eq_true',Bool.not_eq_false];constructor
 ·intro hh;refine List.ext_getElem h fun i h1 h2=>?_
  have:=hh i (by unfold aq;omega)
  simp only[z9,VH,ak,VL,List.getElem?_eq_getElem h1,List.getElem?_eq_getElem h2,Option.getD_some]at this;exact this
 ·rintro rfl i _
  simp[z9]
theorem jB:aU []=true:=rfl
theorem jy {L:List Obj}:aU L=true↔L= []:=by
 unfold aU aq;simp[List.length_eq_zero_iff]
theorem pX (i:Int):cI [] i=1:=rfl
theorem G4 {L:List Obj} (h:aU L=false) (i:Int):cI L i=if i<0\/(L.length:Int)<=i then 4 else 0:=by
 have:L≠ []:=fun e=>by rw[e]at h;simp[jB]at h
 unfold cI aq;rw[VM (by simpa[List.length_eq_zero_iff]using this)]
theorem mX {L:List Obj} {i:Int}:cI L i=0↔0<=i/\i<(L.length:Int):=by
 unfold cI aq;split
 ·omega
 ·split<;>omega
theorem yS (L:List Obj) (k:Key):((!aP k)=true->free=aa L k/\false=aQ L k)/\
  ((!aP k)=false->
    ((!decide (cI L (bH k)=0)|| !ck k (aC L (bH k)))=true->
      free=aa L k/\false=aQ L k)/\
      ((!decide (cI L (bH k)=0)|| !ck k (aC L (bH k)))=false->
        aC L (bH k)=aa L k/\true=aQ L k)):=by
 have fin:∀b,aQ L k=b->(b=false->free=aa L k)/\b=aQ L k:=fun b h=>⟨fun hb=>by unfold aa;rw[h,hb];rfl,h.symm⟩
 refine⟨fun h=>?_,fun h=>?_⟩
 ·have h:aP k=false:=by simpa using h
  have:=fin false (by unfold aQ;rw[h];rfl)
  exact⟨this.1 rfl,this.2⟩
 ·have h:aP k=true:=by simpa using h
  have ho:bH k=k.oid:=by unfold bH;rw[VN h]
  rw[ho];by_cases hh:cI L k.oid=0
  ·have hg:aC L k.oid=ak L k.oid.toNat free:=by unfold aC;rw[VN hh]
   rw[hg];have e:aQ L k=ck k (ak L k.oid.toNat free):=by unfold aQ;simp[h,hh]
   refine⟨fun hc=>?_,fun hc=>?_⟩
   ·have hc:ck k (ak L k.oid.toNat free)=false:=by simpa[hh]using hc
    have:=fin false (by rw[e,hc])
    exact⟨this.1 rfl,this.2⟩
   ·have hc:ck k (ak L k.oid.toNat free)=true:=by simpa[hh]using hc
    have:=fin true (by rw[e,hc])
    refine⟨?_,this.2⟩;unfold aa;rw[e,hc];rfl
  ·have:=fin false (by unfold aQ;simp[hh])
   exact⟨fun _=>⟨this.1 rfl,this.2⟩,fun hc=>by simp[hh]at hc⟩
theorem A2 (L:List Obj) (k:Key):((aU L|| !decide (bT k=0))=true->void=ae L k)/\
  ((aU L|| !decide (bT k=0))=false->
    ((aP k&& !aQ L k)=true->void=ae L k)/\((aP k&& !aQ L k)=false->k=ae L k)):=by
 have hc:(!decide (bT k=0))= !aS k:=by unfold bT;cases aS k<;>simp
 rw[hc];unfold ae;refine⟨fun h=>?_,fun h=>⟨fun h2=>?_,fun h2=>?_⟩⟩
 ·rw[VN];simp only[h,Bool.true_or]
 ·rw[VN];simp only[h2,Bool.or_true]
 ·rw[VM];simp only[h,h2];simp
theorem FT {n:Int}:dW n=true↔1<=n/\n<=64:=by simp[dW]
theorem N9 {g:Int} (h:0<=g):gx (jv g) free=jv (g+1):=by
 unfold gx jv;rw[show(g+1).toNat=g.toNat+1 by omega,List.replicate_succ']
theorem DU {i:Int} {o:Obj}:eU [] i o=1:=by unfold eU;rw[pX];rfl
theorem Ou {L:List Obj} {i:Int} {o:Obj} (h:cI L i≠0):eU L i o=cI L i/\bO L i o=L:=by
 unfold eU bO;rw[VM h,VM (fun hh=>h hh.1)];exact⟨rfl,rfl⟩
theorem PL {L:List Obj} {i:Int} {o:Obj} (h:cI L i=0) (h2:de o (aq L:Int)≠0):eU L i o=de o (aq L:Int)/\bO L i o=L:=by
 unfold eU bO;rw[VN h,VM (fun hh=>h2 hh.2)];exact⟨rfl,rfl⟩
theorem rY {L:List Obj} {i:Int} {o:Obj} (h:cI L i=0) (h2:de o (aq L:Int)=0):eU L i o=0/\bO L i o=di L i.toNat o:=by
 unfold eU bO;rw[VN h,VN ⟨h,h2⟩];exact⟨h2,rfl⟩
theorem QY {c:Bool} {M:List Obj} (hn:c=false) {v:V} {r:List aB} (h:RY c M v r):vK (.tp [gX,.ci .i64 2]) v []:=by
 unfold RY at h;split at h
 ·split at h
  ·split at h
   ·split at h
    ·exact MW (cM h.2)
    ·exact h.elim
   ·split at h
    ·split at h
     ·rw[hn]at h;simp at h
     ·exact h.elim
    ·exact h.elim
   ·exact h.elim
  ·exact h.elim
 ·exact h.elim
theorem Nr {c:Bool} {M:List Obj} (hn:c=true) {v:V} {r:List aB} (h:RY c M v r):∃j b,v= .tp [.lp j 0,b]/\vK (.ci .i64 0) b []/\Fo r j=some (tS,eS,M):=by
 unfold RY at h;split at h
 ·split at h
  ·split at h
   ·split at h
    ·rw[hn]at h;simp at h
    ·exact h.elim
   ·split at h
    ·rename_i hst;split at h
     ·rename_i hc;simp only[VG,VI]at hc;obtain⟨⟨rfl,rfl⟩,rfl⟩:=hc;obtain⟨_,h2,rfl⟩:=h;exact⟨_,_,rfl,cM h2,hst⟩
     ·exact h.elim
    ·exact h.elim
   ·exact h.elim
  ·exact h.elim
 ·exact h.elim
theorem Nh {c:Bool} {M:List Obj} (hn:c=true) {v:V} {r:List aB} (h:RY c M v r):∃j r',Fo r j=some (tS,eS,M)/\(r'=r\/rM r j=some r')/\an r' j= .store tS eS M/\∀(κ:Nat->Option Nat) (i:Nat),κ j=some i->j8 κ v (.tp [.lp i 0,.ci .i64 0]):=by
 obtain⟨j,b,rfl,hb,hst⟩:=Nr hn h
 have ht:∀(κ:Nat->Option Nat) (i:Nat),κ j=some i->j8 κ (.tp [.lp j 0,b]) (.tp [.lp i 0,.ci .i64 0]):=fun κ i hi ρ2 ρ3 N N' hv hN hk=>by
  obtain⟨s1,s2,_⟩:=hb ρ2 N;refine⟨?_,hN j i hi hk.1,by simp[ok,cj],trivial⟩
  simp only[den,bf,(hv j i hi).1,s1]
 rcases BU hst with h1|⟨r',h1,h2⟩
 ·exact⟨j,r,hst,.inl rfl,h1,ht⟩
 ·exact⟨j,r',hst,.inr h1,h2,ht⟩
theorem LO {x:V} {M:List Obj} {v:V} {r:List aB} (h:TH x M v r):∃t,CY r 0=some (tS,eS,t,M)/\vK x v r:=by
 unfold TH at h;split at h
 ·rename_i hst;split at h
  ·rename_i hc;simp only[VG,VI]at hc;obtain⟨rfl,rfl⟩:=hc;obtain⟨h1,rfl⟩:=h;exact⟨_,hst,cM h1⟩
  ·exact h.elim
 ·exact h.elim
theorem UK {P:Program} {f:Nat} {rest:List V} {res:List aB} {K KP:V->List aB->Prop} {k:Nat} {L M:List Obj} {x:V} (hr:an res k= .store tS eS L) (hid:k9 rest=true) (hx:j4 x=true)
  (h:(∀o∈L,o.wf)->L.length<=9223372036854775807->aj P f (.lp 0 0::rest) [.blk tS (.ag [.sa 1]),.obs eS 2 L,.gen 1] (TH x M) (fun _ _=>False)) (hK:K x (br res k (.store tS eS M))):aj P f (.lp k 0::rest) res K KP:=by
 refine aj.Ac hr hid hx ?_ hK;refine aj.fact (k:=0) rfl fun w1 w2=>?_
 refine aj.jf (k:=0) rfl ?_;refine aj.shut (h w1 w2) fun v r hv=>?_
 obtain⟨t,h1,h2⟩:=LO hv;obtain⟨r',g1,g2⟩:=yp h1;exact .inr ⟨0,r',g1,fun J K=>h2 J K,g2⟩
theorem fL {l:List Obj}:Ae l=true↔1<=l.length/\l.length<=64/\∀i,i<l.length->bq (ak l i free) (l.length:Int)=true:=by
 unfold Ae aq;simp only[VG,VH,List.all_eq_true,List.mem_range,and_assoc]
theorem Di (o:Obj) (n:Int):(de o n=0/\bq o n=true)\/(de o n=2/\bq o n=false):=by
 unfold de;cases bq o n<;>simp
theorem mN (k:Key):(aP k=true/\cO k=k.oid/\0<=k.oid)\/(aP k=false/\cO k= -1):=by
 have h:cO k=if aP k then k.oid else -1:=rfl
 cases hn:aP k
 ·exact .inr ⟨rfl,by rw[h,hn];rfl⟩
 ·refine .inl ⟨rfl,by rw[h,hn];rfl,?_⟩
  unfold aP at hn;simp only[VG]at hn;have:=hn.1;simp only[aS,eZ,hn.2,if_true,VG,VH]at this;omega
theorem wS {l:List Obj} {k:Key} (h:aQ l k=true):0<=cO k/\cO k<(l.length:Int)/\aa l k=ak l (cO k).toNat free:=by
 have h':=h;unfold aQ at h;simp only[VG,VH]at h;have hb:=mX.1 h.1.2;rcases mN k with⟨h1,h2,h3⟩|⟨h1,h2⟩
 ·rw[h2];exact⟨hb.1,hb.2,by unfold aa;rw[h',VN rfl]⟩
 ·rw[h1]at h;simp at h
theorem rP {L M:List Obj} (h:L.length=M.length) (h2:∀j:Nat,j<L.length->ak L j free=ak M j free):L=M:=by
 apply List.ext_getElem h
 intro i h3 h4;have:=h2 i h3;unfold ak at this;simpa[VL,h3,h4]using this
end Go.Sx
namespace Go.Proofs.YtlblcfaclmpekaaGreat
open Go.Sx
set_option maxRecDepth 100000
theorem HA:
 true=aU []:=by
 rfl
theorem Jf (L:List Sx.Obj):
 decide (b6 (aq L)=0)=aU L:=by
 unfold aU b6 aq;rw[decide_eq_decide];omega
theorem nY:dC Tryz.prog 42 Cr:=
 JK (fun _=>rfl) (bu (inl:=ca) (ann:=aR) au HA (by kernel_rfl)) (fun L _ _=>bu (inl:=ca) (ann:=aR) au (Jf L) (by kernel_rfl))
theorem MP (i:Int):
 (aU []=true->1=cI [] i)/\
  (aU []=false->((!decide (i<0))=true->False)/\((!decide (i<0))=false->4=cI [] i)):=by
 exact⟨fun _=>rfl,fun h=>by simp[jB]at h⟩
theorem LQ (L:List Sx.Obj) (i:Int):
 (aU L=true->1=cI L i)/\
  (aU L=false->
   ((decide (i<0)||decide (b6 (aq L)<=i))=true->4=cI L i)/\
     ((decide (i<0)||decide (b6 (aq L)<=i))=false->0=cI L i)):=by
 refine⟨fun h=>?_,fun h=>?_⟩
 ·rw[jy.1 h];rfl
 ·rw[G4 h];unfold b6 aq;refine⟨fun h1=>?_,fun h1=>?_⟩
  ·simp only[Bool.or_eq_true,VH]at h1;rw[VN h1]
  ·simp only[Bool.or_eq_false_iff,decide_eq_false_iff_not]at h1;rw[VM (by omega)]
theorem vE:dC Tryz.prog 45 SG:=
 uU (gR .i64) (fun _ _=>rfl) (fun x _=>bu (inl:=ca) (ann:=aR) (ab nY au) (MP x) (by kernel_rfl)) (fun L x _ _ _=>bu (inl:=ca) (ann:=aR) (ab nY au) (LQ L x) (by kernel_rfl)) fun _=>rfl
theorem Ie:
 (aU []=true->0=ah [])/\(aU []=false->False):=by
 exact⟨fun _=>rfl,fun h=>by simp[jB]at h⟩
theorem K6 (L:List Sx.Obj):
 (aU L=true->0=ah L)/\(aU L=false->b6 (aq L)=ah L):=by
 exact⟨fun h=>by rw[jy.1 h];rfl,fun _=>rfl⟩
theorem ba:dC Tryz.prog 36 DF:=
 JK (fun _=>rfl) (bu (inl:=ca) (ann:=aR) (ab nY au) Ie (by kernel_rfl)) (fun L _ _=>bu (inl:=ca) (ann:=aR) (ab nY au) (K6 L) (by kernel_rfl))
theorem Mr (i:Int):
 ((!decide (cI [] i=0))=true->free=aC [] i/\cI [] i=cI [] i)/\
   ((!decide (cI [] i=0))=false->False):=by
 exact⟨fun _=>⟨rfl,rfl⟩,fun h=>by simp[pX]at h⟩
theorem Oi (L:List Sx.Obj) (i:Int):
 ((!decide (cI L i=0))=true->free=aC L i/\cI L i=cI L i)/\
   ((!decide (cI L i=0))=false->
     (0<=i/\i< ↑(aq L))/\i.toNat<aq L/\i.toNat<aq L/\ak L i.toNat free=aC L i/\0=cI L i):=by
 refine⟨fun h=>⟨?_,rfl⟩,fun h=>?_⟩
 ·unfold aC;rw[VM (by simpa using h)]
 ·have h:cI L i=0:=by simpa using h
  have hb:=mX.1 h;unfold aC aq;rw[VN h,h];exact⟨hb,by omega,by omega,rfl,rfl⟩
theorem eN:dC Tryz.prog 25 SV:=
 uU (gR .i64) (fun _ _=>rfl) (fun x _=>bu (inl:=ca) (ann:=aR) (ab vE au) (Mr x) (by kernel_rfl)) (fun L x _ _ _=>bu (inl:=ca) (ann:=aR) (ab vE au) (Oi L x) (by kernel_rfl)) fun _=>rfl
theorem F5 (k:Key):
 ((!aP k)=true->free=aa [] k/\false=aQ [] k)/\
   ((!aP k)=false->
     ((!decide (cI [] (bH k)=0)|| !ck k (aC [] (bH k)))=true->
       free=aa [] k/\false=aQ [] k)/\
       ((!decide (cI [] (bH k)=0)|| !ck k (aC [] (bH k)))=false->
         aC [] (bH k)=aa [] k/\true=aQ [] k)):=by
 exact yS [] k
theorem Gw (L:List Sx.Obj) (k:Key):
 ((!aP k)=true->free=aa L k/\false=aQ L k)/\
   ((!aP k)=false->
     ((!decide (cI L (bH k)=0)|| !ck k (aC L (bH k)))=true->
       free=aa L k/\false=aQ L k)/\
       ((!decide (cI L (bH k)=0)|| !ck k (aC L (bH k)))=false->
         aC L (bH k)=aa L k/\true=aQ L k)):=by
 exact yS L k
theorem bn:dC Tryz.prog 26 Oc:=
 uU ir (fun _ _=>rfl) (fun x _=>bu (inl:=ca) (ann:=aR) (ab cF (ab eN (ab vT au))) (F5 x) (by kernel_rfl)) (fun L x _ _ _=>bu (inl:=ca) (ann:=aR) (ab cF (ab eN (ab vT au))) (Gw L x) (by kernel_rfl)) fun _=>rfl
end Go.Proofs.YtlblcfaclmpekaaGreat
namespace Go.Proofs.YtlblcfaclmpekaaGreat
open Go.Sx
set_option maxRecDepth 100000
theorem QN (n:Int):
 ((decide (n<1)||decide (64<n))=true->dW n=false/\True)/\
   ((decide (n<1)||decide (64<n))=false->
     (∃g,zX n g/\Value.pointer none=Value.pointer none/\n=n/\0=g/\ []=jv g)/\
      ∀(g:Int),
       zX n g->
        (decide (g<n)=true->
          oR (aq (jv g)) 8/\
           aM IntKind.i64 (g+1)/\
            ∃g',
             zX n g'/\
              (n-g').toNat<(n-g).toNat/\
               Value.pointer none=Value.pointer none/\
                n=n/\g+1=g'/\gx (jv g) free=jv g')/\
         (decide (g<n)=false->dW n=true/\True/\jv g=jv n)):=by
 refine⟨fun h=>⟨?_,trivial⟩,fun h=>⟨⟨0,?_,rfl,rfl,rfl,rfl⟩,fun g hg=>⟨fun hlt=>?_,fun hge=>?_⟩⟩⟩
 ·simp only[Bool.or_eq_true,VH]at h;unfold dW;rw[Bool.and_eq_false_iff,decide_eq_false_iff_not,decide_eq_false_iff_not];omega
 ·simp only[Bool.or_eq_false_iff,decide_eq_false_iff_not]at h;exact⟨by omega,by omega⟩
 ·simp only[Bool.or_eq_false_iff,decide_eq_false_iff_not]at h;obtain⟨g0,g1⟩:=hg;have hlt:=VK hlt;refine⟨?_,?_,g+1,⟨by omega,by omega⟩,by omega,rfl,rfl,rfl,N9 g0⟩
  ·unfold oR aq jv;simp only[List.length_replicate,maxLen];omega
  ·simp only[aM,cj];omega
 ·simp only[Bool.or_eq_false_iff,decide_eq_false_iff_not]at h;obtain⟨g0,g1⟩:=hg;have hge:=VJ hge;exact⟨FT.2 (by omega),trivial,by rw[show g=n by omega]⟩
theorem Ix (n:Int):aj Tryz.prog 28 [.it .i64 n] [] (Uu n) (fun _ _=>False):=bu (inl:=ca) (ann:=(kV [(28,5,Vi [2,3,4,13] (fun g=> [(14,.it .i64 g)]) 0 tS eS jv (zX n) n)])) au (QN n) (by kernel_rfl)
theorem Ja:oP Tryz.prog 28 OE:=by
 intro args res K KP h;unfold OE at h;split at h
 ·split at h
  ·rename_i n hn;refine aj.args (er.rd (gR .i64) hn er.nil) ?_;cases hb:dW n with
   |false=>exact aj.pure rfl rfl ((Ix n).mono (fun v r hv=>QY hb hv) fun _ _ h=>h) (h.1 hb)
   |true=>
    refine aj.NK (F:=fun j=> .tp [.lp j 0,.ci .i64 0]) rfl ?_ (h.2 hb)
    refine aj.shut (Ix n) fun v r hv=>?_
    obtain⟨j,r',_,h1,h2,h3⟩:=Nh hb hv;rcases h1 with rfl|h1
    ·exact .inl ⟨j,h2,h3⟩
    ·exact .inr ⟨j,r',h1,j,h2,h3⟩
  ·exact h.elim
 ·exact h.elim
theorem MU (i:Int) (o:Sx.Obj):
 ((!decide (cI [] i=0))=true->cI [] i=eU [] i o)/\((!decide (cI [] i=0))=false->False):=by
 refine⟨fun _=>?_,fun h=>by simp[pX]at h⟩
 rw[DU,pX]
theorem Me (i:Int) (o:Sx.Obj):aj Tryz.prog 30 [gX,.it .i64 i,.ob o] [] (nI (.it .i64 (eU [] i o))) (fun _ _=>False):=bu (inl:=ca) (ann:=aR) (ab vE (ab zT au)) (MU i o) (by kernel_rfl)
theorem L0 (L:List Sx.Obj) (i:Int) (o:Sx.Obj):
 ((!decide (cI L i=0))=true->cI L i=eU L i o/\L=bO L i o)/\
   ((!decide (cI L i=0))=false->
     ((!decide (de o (b6 (aq L))=0))=true->de o (b6 (aq L))=eU L i o/\L=bO L i o)/\
       ((!decide (de o (b6 (aq L))=0))=false->
         (0<=i/\i< ↑(aq L))/\i.toNat<aq L/\0=eU L i o/\di L i.toNat o=bO L i o)):=by
 refine⟨fun h=>?_,fun h=>⟨fun h2=>?_,fun h2=>?_⟩⟩
 ·obtain⟨a,b⟩:=Ou (o:=o) (show cI L i≠0 by simpa using h)
  rw[a,b];exact⟨rfl,rfl⟩
 ·obtain⟨a,b⟩:=PL (o:=o) (show cI L i=0 by simpa using h) (show de o (aq L:Int)≠0 by unfold b6 at h2;simpa using h2)
  rw[a,b];exact⟨rfl,rfl⟩
 ·have h:=(show cI L i=0 by simpa using h)
  have hb:=mX.1 h;obtain⟨a,b⟩:=rY (o:=o) h (show de o (aq L:Int)=0 by unfold b6 at h2;simpa using h2)
  rw[a,b];exact⟨hb,by unfold aq;omega,rfl,rfl⟩
theorem Mq (L:List Sx.Obj) (i:Int) (o:Sx.Obj):aj Tryz.prog 30 [.lp 0 0,.it .i64 i,.ob o] [.blk tS (.ag [.sa 1]),.obs eS 2 L,.gen 1] (TH (.it .i64 (eU L i o)) (bO L i o)) (fun _ _=>False):=bu (inl:=ca) (ann:=aR) (ab vE (ab zT au)) (L0 L i o) (by kernel_rfl)
theorem Nc (i:Int) (o:Sx.Obj):
 ((!decide (cI [] i=0))=true->cI [] i=eU [] i o)/\
   ((!decide (cI [] i=0))=false->
     ((!decide (de o 0=0))=true->de o 0=eU [] i o)/\((!decide (de o 0=0))=false->False)):=by
 refine⟨fun _=>?_,fun h=>by simp[pX]at h⟩
 rw[DU,pX]
theorem L3 (i:Int) (o:Sx.Obj):aj Tryz.prog 30 [.lp 0 0,.it .i64 i,.ob o] [.ro (.blk tS (.ag [.nl (.slice none 0 0)]))] (nI (.it .i64 (eU [] i o))) (fun _ _=>False):=bu (inl:=ca) (ann:=aR) (ab vE (ab zT au)) (Nc i o) (by kernel_rfl)
theorem cw:oP Tryz.prog 30 OU:=by
 intro args res K KP h;unfold OU at h;split at h
 ·split at h
  ·rename_i i hi;split at h
   ·rename_i o ho;refine aj.args (er.kL (er.rd (gR .i64) hi (er.rd B7 ho er.nil))) ?_;split at h
    ·split at h
     ·exact aj.pure rfl rfl ((Me i o).mono (fun _ _ h=>cM h) fun _ _ h=>h) h
     ·exact h.elim
    ·split at h
     ·rename_i hoff;have hoff:=VI.1 hoff;subst hoff;split at h
      ·rename_i hr;split at h
       ·rename_i hc;simp only[VG,VI]at hc;obtain⟨rfl,rfl⟩:=hc;exact UK hr rfl rfl (fun _ _=>Mq _ i o) h
       ·exact h.elim
      ·rename_i hr;split at h
       ·rename_i hc;simp only[VG,VI]at hc;obtain⟨rfl,hz⟩:=hc;have:=vr hz;subst this;refine aj.Lh (r0:= .blk tS (.ag [.nl (.slice none 0 0)])) (by unfold cT;rw[hr]) (by simp) (fun κ=>rfl) rfl rfl ((L3 i o).mono (fun _ _ h=>cM h) fun _ _ h=>h) h
       ·exact h.elim
      ·exact h.elim
     ·exact h.elim
    ·exact h.elim
   ·exact h.elim
  ·exact h.elim
 ·exact h.elim
end Go.Proofs.YtlblcfaclmpekaaGreat
namespace Go.Sx
def ji (r b:Int):Bool:=decide ((r.tdiv b).tmod 2=1)
def u7 (r m g:Int):Int:=(if 2<=g/\(ji r 1||ji m 1)=true then 1 else 0)+(if 4<=g/\(ji r 2||ji m 2)=true then 2 else 0)+(if 8<=g/\(ji r 4||ji m 4)=true then 4 else 0)
def jt (r m:Int):Int:=u7 r m 8
def cz (k:Key) (r:Int):Key:= {k with rights:=r}
def tC (k:Key):Key:=if k.kind=2 then cz k (jt k.rights 3)else if k.kind=3 then cz k 1 else if k.kind=1\/k.kind=8 then k else void
def gn (k:Key):Key:=if aS k then tC k else void
def J4:Ct:=RV rK fun k=> .tp [.key (gn k),.it .i64 (bT k)]
def aO (L:List Obj) (k:Key) (kind:Int) (c:Bool):Int:=if aq L=0 then 1 else if(!aQ L k|| !decide (k.kind=kind))=true then 190 else if(c&& !decide (k.rights.tmod 4=0))=true then 191 else 0
def yF (k:Key):Bool:=decide ((k.rights.tdiv 2).tmod 2=1)
def iU (L:List Obj) (o:Obj) (k:Key) (i:Int):Key:=if yF k then tC (ae L (o.slots.at i.toNat))else ae L (o.slots.at i.toNat)
def ec (L:List Obj) (k:Key) (i:Int):Key:=iU L (ak L k.oid.toNat free) k i
def mY (k:Key) (i:Int):Prop:=0<=i/\i<16/\aS k=true
def mo (i:Int):Bool:=decide (0<=i)&&decide (i<16)
def cG (L:List Obj) (k:Key) (i:Int):Int:=if aO L k 2 false=0 then(if mo i then 0 else 4)else aO L k 2 false
def aJ (L:List Obj) (k:Key) (i:Int):Key:=if cG L k i=0 then ec L k i else void
def bQ (L:List Obj) (v:Key):Bool:=aS v&&decide (cO v<(aq L:Int))
def bB (L:List Obj) (k:Key) (i:Int) (v:Key):Int:=if aO L k 2 true=0 then(if mo i then(if bQ L v then 0 else 2)else 4)else aO L k 2 true
def ew (L:List Obj) (k:Key) (i:Int) (v:Key):Key:=if bB L k i v=0 then ec L k i else void
def fC (o:Obj) (s:bU):Obj:= {o with slots:=s}
def tt (L:List Obj) (k:Key) (s:bU):List Obj:=di L k.oid.toNat (fC (ak L k.oid.toNat free) s)
def dN (L:List Obj) (k:Key) (i:Int) (v:Key):List Obj:=if bB L k i v=0 then tt L k ((ak L k.oid.toNat free).slots.put i.toNat (ae L v))else L
def gd (L:List Obj) (k:Key):List Obj:=if aO L k 2 true=0 then tt L k gg else L
def cg (L:List Obj) (t f:Key):Int:=if aO L t 2 true=0 then aO L f 2 false else aO L t 2 true
def ft (L:List Obj) (t f:Key) (g:Int):bU:=(List.range g.toNat).foldl (fun s (j:Nat)=>s.put j (ec L f (j:Int))) (ak L t.oid.toNat free).slots
def fA (L:List Obj) (t f:Key):List Obj:=if cg L t f=0 then tt L t (ft L t f 16)else L
def ar (L:List Obj):Prop:=Ae L=true
def ve (g:Int):Prop:=0<=g/\g<=16
def kA:Arg Key:=AX rK V.key
def iA:Arg Int:=AX (rI .i64) (V.it .i64)
def bA:Arg Bool:=AX toBool V.bo
def oA:Arg Obj:=AX rO V.ob
def sA:Arg (Option (List Obj)):=TU tS eS
def As (o:Option (List Obj)):List Obj:=match o with
 |none=> []
 |some L=>L
def nB:lR (Obj×Option (List Obj)×Key×Unit):=bG oA (bG sA (bG kA kD))
def PO:Ct:=Cj (bG (RI nB) (bG iA kD)) (fun x=>some (mY x.1.2.2.1 x.2.1)) fun x=> .key (iU (As x.1.2.1) x.1.1 x.1.2.2.1 x.2.1)
def PQ:Ct:=Cj (bG sA (bG kA (bG iA kD))) (fun _=>none) fun x=> .tp [.key (aJ (As x.1) x.2.1 x.2.2.1),.it .i64 (cG (As x.1) x.2.1 x.2.2.1)]
theorem IP {r m g:Int}:0<=u7 r m g/\u7 r m g<=7:=by
 unfold u7;repeat' split
 all_goals omega
theorem Hp {r:Int} (h0:0<=r) (h1:r<=7):aV .or .i64 r 3=jt r 3:=by
 have:r=0\/r=1\/r=2\/r=3\/r=4\/r=5\/r=6\/r=7:=by omega
 rcases this with rfl|rfl|rfl|rfl|rfl|rfl|rfl|rfl<;>decide
theorem Cf {r:Int} (h0:0<=r) (h1:r<=1):aV .or .i64 r 1=1:=by
 have:r=0\/r=1:=by omega
 rcases this with rfl|rfl<;>decide
theorem gM {k:Key} (h:aS k=true):0<=k.rights/\k.rights<=ei k.kind:=by
 simp only[aS,VG,VH]at h;omega
theorem oy:aS void=true:=by decide
theorem nN (L:List Obj) (k:Key):aS (ae L k)=true:=by
 unfold ae;split
 ·exact oy
 ·rename_i h;simp only[Bool.or_eq_true,not_or,Bool.not_eq_true,Bool.not_eq_false']at h;exact h.1.2
theorem Cc (L:List Obj) (k:Key):gn (ae L k)=tC (ae L k):=by unfold gn;rw[nN,VN rfl]
theorem Uq {r:Int} (h0:0<=r) (h1:r<=7):decide (aV .and .i64 r 2=0)= !decide ((r.tdiv 2).tmod 2=1):=by
 have:r=0\/r=1\/r=2\/r=3\/r=4\/r=5\/r=6\/r=7:=by omega
 rcases this with rfl|rfl|rfl|rfl|rfl|rfl|rfl|rfl<;>decide
theorem Ng {r:Int} (h0:0<=r) (h1:r<=7):decide (aV .and .i64 r 3=0)=decide (r.tmod 4=0):=by
 have:r=0\/r=1\/r=2\/r=3\/r=4\/r=5\/r=6\/r=7:=by omega
 rcases this with rfl|rfl|rfl|rfl|rfl|rfl|rfl|rfl<;>decide
theorem L2 (n:Int):ei n<=7:=by unfold ei;split<;>(try split)<;>omega
theorem pD {k:Key} (h:aS k=true):0<=k.rights/\k.rights<=7:=by
 have:=gM h;have:=L2 k.kind;omega
theorem eH {L:List Obj} {k:Key} (h:aQ L k=true):aS k=true/\0<=k.oid/\k.oid<(L.length:Int)/\aa L k=ak L k.oid.toNat free/\(ak L k.oid.toNat free).kind=iK k:=by
 have h':=h;unfold aQ at h;simp only[VG,VH]at h;obtain⟨⟨h1,h2⟩,h3⟩:=h;have hb:=mX.1 h2;have hn:0<=cO k:=(wS h').1;simp only[ck,VG,Bool.or_eq_true,VH]at h3;refine⟨h3.1,hb.1,hb.2,by unfold aa;rw[h',VN rfl],?_⟩
 rcases h3.2 with h|h
 ·omega
 ·exact h.1.1
theorem EG {L:List Obj} {o:Obj} {k:Key} {i:Int} (hq:mY k i):(0<=i/\i< ↑16)/\
  ((!decide (aV BinOp.and IntKind.i64 k.rights 2=0))=true->gn (ae L (o.slots.at i.toNat))=iU L o k i)/\
    ((!decide (aV BinOp.and IntKind.i64 k.rights 2=0))=false->ae L (o.slots.at i.toNat)=iU L o k i):=by
 obtain⟨h0,h1,h2⟩:=hq;have hr:=pD h2;rw[Uq hr.1 hr.2,Cc];unfold iU yF;refine⟨⟨h0,by omega⟩,fun h=>?_,fun h=>?_⟩
 ·rw[VN (by simpa using h)]
 ·rw[VM (by simpa using h)]
theorem kM {L:List Obj} {k:Key} {d:Int} {c:Bool} (h:aO L k d c=0):aQ L k=true/\k.kind=d/\(c=true->k.rights.tmod 4=0):=by
 unfold aO at h;split at h
 ·omega
 ·split at h
  ·omega
  ·rename_i h2;simp only[Bool.or_eq_true,Bool.not_eq_true',decide_eq_false_iff_not,not_or,Bool.not_eq_false,Decidable.not_not]at h2;split at h
   ·omega
   ·rename_i h3;refine⟨h2.1,h2.2,fun hc=>?_⟩
    simpa[hc]using h3
theorem mG:mn kA:=p5 ir (fun _=>rfl) fun v x h=>Sd h
theorem O5:mn oA:=p5 B7 (fun _=>rfl) fun v x h=>by cases v<;>simp[rO]at h;rfl
theorem OV:mn bA:=p5 H5 (fun _=>rfl) fun v x h=>by cases v<;>simp[toBool]at h<;>rfl
theorem fN:mn iA:=p5 (gR .i64) (fun _=>rfl) fun v x h=>by cases v<;>simp[rI,toInt]at h<;>rfl
theorem qK:mn sA:=Rj _ _
theorem SL:ij nB:=aN O5 (aN qK (aN mG dX))
def zt (x:V) (M:List Obj) (v:V) (r:List aB):Prop:=
 match an r 0 with
 | .store t e L=>if t==tS&&e==eS then nI x v r/\L=M else False
 |_=>False
theorem EM {x:V} {M:List Obj} {v:V} {r:List aB} (h:zt x M v r):vK x v r/\an r 0= .store tS eS M:=by
 unfold zt at h;split at h
 ·rename_i hr;split at h
  ·rename_i hc;simp only[VG,VI]at hc;obtain⟨rfl,rfl⟩:=hc;obtain⟨h1,rfl⟩:=h;exact⟨cM h1,hr⟩
  ·exact h.elim
 ·exact h.elim
def Fx {α:Type} (B:List V->Option α) (Q:List Obj->α->Prop) (F:List Obj->α->V) (M:List Obj->α->List Obj):np:=fun args res K=>
 match args with
 |a::l=>match B l with
  |some x=>match a with
   | .nl v=>match v with
     | .pointer none=>K (F [] x) res
     |_=>False
   | .lp k off=>if off==0 then match an res k with
     | .store t e L=>if t==tS&&e==eS then Q L x/\K (F L x) (br res k (.store tS eS (M L x)))else False
     | .blk t c=>if t==tS&&R6 c then K (F [] x) res else False
     |_=>False
     else False
   |_=>False
  |none=>False
 |_=>False
def T7:V:= .ag [.nl (.slice none 0 0)]
theorem mf {P:Program} {f:Nat} {α:Type} {B:List V->Option α} {m:α->List V} {Q:List Obj->α->Prop} {F:List Obj->α->V} {M:List Obj->α->List Obj} (hB:∀l x,B l=some x->er l (m x)) (hid:∀x,k9 (m x)=true) (hF:∀L x,j4 (F L x)=true)
  (h0:∀x,aj P f (gX::m x) [] (nI (F [] x)) (fun _ _=>False)) (hz:∀x,aj P f (.lp 0 0::m x) [.ro (.blk tS T7)] (nI (F [] x)) (fun _ _=>False))
  (h1:∀L x,Q L x->(∀o∈L,o.wf)->L.length<=9223372036854775807->aj P f (.lp 0 0::m x) [.store tS eS L] (zt (F L x) (M L x)) (fun _ _=>False)):oP P f (Fx B Q F M):=by
 intro args res K KP h;unfold Fx at h;split at h
 case h_2=>exact h.elim
 split at h
 case h_2=>exact h.elim
 rename_i x hx;refine aj.args (er.kL (hB _ _ hx)) ?_;split at h
 ·split at h
  ·exact aj.pure (by simp only[k9,j4,Bool.true_and];exact hid x) (hF _ _) ((h0 x).mono (fun _ _ h=>cM h) fun _ _ h=>h) h
  ·exact h.elim
 ·split at h
  ·rename_i hoff;have hoff:=VI.1 hoff;subst hoff;split at h
   ·rename_i hr;split at h
    ·rename_i hc;simp only[VG,VI]at hc;obtain⟨rfl,rfl⟩:=hc;refine aj.Ac hr (hid x) (hF _ _) (aj.fact (k:=0) rfl fun w1 w2=>(h1 _ x h.1 w1 w2).mono (fun v r hv=>EM hv |> fun⟨a,b⟩=>⟨fun J K=>a J K,b⟩) fun _ _ h=>h) h.2
    ·exact h.elim
   ·rename_i hr;split at h
    ·rename_i hc;simp only[VG,VI]at hc;obtain⟨rfl,hz'⟩:=hc;have:=vr hz';subst this;exact aj.Lh (r0:= .blk tS T7) (by unfold cT;rw[hr];rfl) (by simp) (fun κ=>rfl) (hid x) (hF _ _) ((hz x).mono (fun _ _ h=>cM h) fun _ _ h=>h) h
    ·exact h.elim
   ·exact h.elim
  ·exact h.elim
 ·exact h.elim
def TM (l:List V):Option Key:=match l with
 | [a]=>rK a
 |_=>none
def Mb (l:List V):Option (Key×Key):=match l with
 | [a,b]=>match rK a with
   |some k=>match rK b with
    |some k'=>some (k,k')
    |none=>none
   |none=>none
 |_=>none
def Ko (l:List V):Option (Key×Int×Key):=match l with
 | [a,b,c]=>match rK a with
   |some k=>match rI .i64 b with
    |some i=>match rK c with
     |some k'=>some (k,i,k')
     |none=>none
    |none=>none
   |none=>none
 |_=>none
theorem I8:∀l x,TM l=some x->er l [.key x]:=fun l x h=>by
 unfold TM at h;split at h
 ·exact er.rd ir h er.nil
 ·simp at h
theorem D7:∀l x,Mb l=some x->er l [.key x.1,.key x.2]:=fun l x h=>by
 unfold Mb at h;split at h
 ·split at h
  ·rename_i h1;split at h<;>simp only[VE,reduceCtorEq]at h
   rename_i h2;subst h;exact er.rd ir h1 (er.rd ir h2 er.nil)
  ·simp at h
 ·simp at h
theorem Ia:∀l x,Ko l=some x->er l [.key x.1,.it .i64 x.2.1,.key x.2.2]:=fun l x h=>by
 unfold Ko at h;split at h
 ·split at h
  ·rename_i h1;split at h
   ·rename_i h2;split at h<;>simp only[VE,reduceCtorEq]at h
    rename_i h3;subst h;exact er.rd ir h1 (er.rd (gR .i64) h2 (er.rd ir h3 er.nil))
   ·simp at h
  ·simp at h
 ·simp at h
def tK:Nat:=44
def zh (g:Int):Nat:=(16-g).toNat
def Qt:np:=Fx Ko (fun L _=>ar L) (fun L x=> .tp [.key (ew L x.1 x.2.1 x.2.2),.it .i64 (bB L x.1 x.2.1 x.2.2)]) fun L x=>dN L x.1 x.2.1 x.2.2
def QR:np:=Fx TM (fun L _=>ar L) (fun L x=> .it .i64 (aO L x 2 true)) fun L x=>gd L x
def RF:np:=Fx Mb (fun L _=>ar L) (fun L x=> .it .i64 (cg L x.1 x.2)) fun L x=>fA L x.1 x.2
theorem Jc {L:List Obj} {k:Key} {d:Int} {c:Bool} (h:(!decide (0<ah L))=true):aO L k d c=1:=by
 unfold aO;unfold ah at h;rw[VN (by simp at h;omega)]
theorem Gl {L:List Obj} {k:Key} {d:Int} {c:Bool} (h:(!decide (0<ah L))=false) (h2:(!(aQ L k&&decide (k.kind=d)))=true):aO L k d c=190:=by
 unfold aO;unfold ah at h;rw[VM (by simp at h;omega),VN (by simpa using h2)]
theorem lX {L:List Obj} {k:Key} {d:Int} (h2:(!(aQ L k&&decide (k.kind=d)))=false):aQ L k=true/\k.kind=d:=by simpa using h2
theorem Px {L:List Obj} {k:Key} {d:Int} (h:(!decide (0<ah L))=false) (h2:(!(aQ L k&&decide (k.kind=d)))=false) (h3:(!decide (aV BinOp.and IntKind.i64 k.rights 3=0))=true):aO L k d true=191:=by
 have hr:=pD (eH (lX h2).1).1;rw[Ng hr.1 hr.2]at h3;unfold aO;unfold ah at h;rw[VM (by simp at h;omega),VM (by simpa using h2),VN (by simpa using h3)]
theorem F2 {L:List Obj} {k:Key} {d:Int} (h:(!decide (0<ah L))=false) (h2:(!(aQ L k&&decide (k.kind=d)))=false) (h3:(!decide (aV BinOp.and IntKind.i64 k.rights 3=0))=false):aO L k d true=0:=by
 have hr:=pD (eH (lX h2).1).1;rw[Ng hr.1 hr.2]at h3;unfold aO;unfold ah at h;rw[VM (by simp at h;omega),VM (by simpa using h2),VM (by simpa using h3)]
theorem E1 {L:List Obj} {k:Key} {d:Int} (h:(!decide (0<ah L))=false) (h2:(!(aQ L k&&decide (k.kind=d)))=false):aO L k d false=0:=by
 unfold aO;unfold ah at h;rw[VM (by simp at h;omega),VM (by simpa using h2),VM (by simp)]
def cy (n:Int) (k:Key):Prop:=aS k=true/\cO k<n
theorem KU {n:Int} {k:Key}:kJ 1 n k=true↔cy n k:=by simp[kJ,cy]
theorem K9 (r:Int):0<=jt r 3/\jt r 3<=7:=IP
theorem IH {n:Int} (hn:0<=n) {k:Key} (h:cy n k):cy n (tC k):=by
 obtain⟨h1,h2⟩:=h;have hv:cy n void:=⟨oy,by have:=ly.2;omega⟩
 unfold tC;split
 ·rename_i e;have hw:=K9 k.rights
  have h1':aS (cz k (jt k.rights 3))=true:=by
   simp only[aS,cz,e,VG,VH]at h1⊢;have:ei 2=7:=rfl;grind
  refine⟨h1',?_⟩;unfold cO at h2⊢;rw[h1'];rw[h1]at h2;exact h2
 ·split
  ·rename_i e
   have h1':aS (cz k 1)=true:=by
    simp only[aS,cz,e,VG,VH]at h1⊢;have:ei 3=1:=rfl;grind
   refine⟨h1',?_⟩;unfold cO at h2⊢;rw[h1'];rw[h1]at h2;exact h2
  ·split
   ·exact⟨h1,h2⟩
   ·exact hv
theorem nC {L:List Obj} (hL:0<L.length) (k:Key):cy (L.length:Int) (ae L k):=by
 have hv:cy (L.length:Int) void:=⟨oy,by have:=ly.2;omega⟩
 unfold ae;split
 ·exact hv
 ·rename_i h;simp only[Bool.or_eq_true,not_or,Bool.not_eq_true,Bool.not_eq_false',Bool.and_eq_false_imp]at h;refine⟨h.1.2,?_⟩;rcases mN k with⟨a,b,c⟩|⟨a,b⟩
  ·rw[b];exact(eH (h.2 a)).2.2.1
  ·omega
theorem MO {L:List Obj} (hL:0<L.length) (k:Key) (i:Int):cy (L.length:Int) (ec L k i):=by
 unfold ec iU;split
 ·exact IH (by omega) (nC hL _)
 ·exact nC hL _
theorem vG {o:Obj} {n:Int} {s:bU} (h:bq o n=true) (hk:o.kind=1) (hs:∀i,i<16->cy n (s.at i)):bq (fC o s) n=true:=by
 rw[ep]at h⊢;simp only[fC];obtain⟨a1,a2,a3,a4,a5,a6,a7,a8,a9,a10,a11⟩:=h;exact⟨a1,a2,a3,a4,a5,a6,a7,a8,a9,fun i hi=>by rw[hk];exact KU.2 (hs i hi),fun i hi=> .inl (.inl hk)⟩
theorem yW {L:List Obj} {k:Key} (h:aQ L k=true) (h2:k.kind=2):(ak L k.oid.toNat free).kind=1:=by
 rw[(eH h).2.2.2.2];unfold iK;rw[VM (by have:=(wS h).1;omega),VM (by omega)]
theorem wb {L:List Obj} {k:Key} (hL:ar L) (h:aQ L k=true) (h2:k.kind=2):∀i,i<16->cy (L.length:Int) ((ak L k.oid.toNat free).slots.at i):=fun i hi=>by
 obtain⟨_,b2,b3,_⟩:=eH h;have:=(fL.1 hL).2.2 k.oid.toNat (by omega)
 have:=(ep.1 this).2.2.2.2.2.2.2.2.2.1 i hi;rw[yW h h2]at this;exact KU.1 this
theorem ng {L:List Obj} {k:Key} {s:bU} (hL:ar L) (h:aQ L k=true) (h2:k.kind=2) (hs:∀i,i<16->cy (L.length:Int) (s.at i)):bO L k.oid (fC (aa L k) s)=tt L k s/\ar (tt L k s):=by
 obtain⟨b1,b2,b3,b4,_⟩:=eH h;have hr:=fL.1 hL;have ho:=vG (hr.2.2 k.oid.toNat (by omega)) (yW h h2) hs
 refine⟨?_,?_⟩
 ·rw[b4];exact(rY (mX.2 ⟨b2,b3⟩) (sm ho).symm).2
 ·refine fL.2 ?_;unfold tt;have hl:(di L k.oid.toNat (fC (ak L k.oid.toNat free) s)).length=L.length:=by simp[di]
  rw[hl];refine⟨hr.1,hr.2.1,fun i hi=>?_⟩
  by_cases e:i=k.oid.toNat
  ·subst e;rw[show ak (di L k.oid.toNat (fC (ak L k.oid.toNat free) s)) k.oid.toNat free=fC (ak L k.oid.toNat free) s by simp[ak,di,VL,hi]]
   exact ho
  ·rw[show ak (di L k.oid.toNat (fC (ak L k.oid.toNat free) s)) i free=ak L i free by simp[ak,di,VL,List.getElem?_set,Ne.symm e]]
   exact hr.2.2 i hi
theorem BT {L:List Obj} {k:Key} {i:Int} {v:Key} (hL:ar L) (h:aQ L k=true) (h2:k.kind=2) (h0:0<=i) (h1:i<16):∀j,j<16->cy (L.length:Int) (((ak L k.oid.toNat free).slots.put i.toNat (ae L v)).at j):=fun j hj=>by
 rw[bU.eX _ _ _ _ (by omega)]
 split
 ·exact nC (fL.1 hL).1 v
 ·exact wb hL h h2 j hj
theorem D8 {n:Int} (hn:0<=n):∀j,j<16->cy n (gg.at j):=fun j hj=>by
 rw[Ez.1 rfl j hj];exact⟨oy,by have:=ly.2;omega⟩
theorem rv (L:List Obj) (v:Key):(decide (bT v=0)&&(!aP v||decide (bH v<ah L)))=bQ L v:=by
 unfold bQ bT bH ah;rcases mN v with⟨a,b,c⟩|⟨a,b⟩
 ·rw[a,b];cases aS v<;>simp
 ·rw[a,b];have:(-1:Int)<(aq L:Int):=by omega
  cases aS v<;>simp[this]
theorem yf {L:List Obj} {t f:Key} {g:Int} (h0:0<=g):ft L t f (g+1)=(ft L t f g).put g.toNat (ec L f g):=by
 unfold ft;rw[show(g+1).toNat=g.toNat+1 by omega,List.range_succ,List.foldl_append]
 simp only[List.foldl_cons,List.foldl_nil];rw[show((g.toNat:Nat):Int)=g by omega]
theorem I9 {L:List Obj} {t f:Key} (h:aa L t=ak L t.oid.toNat free):aa L t=fC (aa L t) (ft L t f 0):=by
 unfold ft fC;simp[h]
theorem Lk {L:List Obj} {t f:Key} {g:Int} (h0:0<=g) (h:aa L f=ak L f.oid.toNat free) (o:Obj) (s:bU):({kind:=(fC o (ft L t f g)).kind,count:=(fC o (ft L t f g)).count,calls:=(fC o (ft L t f g)).calls,slots:=(fC o (ft L t f g)).slots.put g.toNat (iU L (aa L f) f g),bytes:=(fC o (ft L t f g)).bytes}:Obj)=fC o (ft L t f (g+1)):=by
 rw[yf h0];unfold ec;rw[h];rfl
theorem vJ {L:List Obj} {t f:Key} (hL:ar L) (h:aQ L t=true) (h2:t.kind=2):∀n:Nat,n<=16->∀j,j<16->cy (L.length:Int) ((ft L t f n).at j)
 |0,_,j,hj=>by
  unfold ft;exact wb hL h h2 j hj
 |n+1,hn,j,hj=>by
  rw[show((n+1:Nat):Int)=(n:Int)+1 by omega,yf (by omega),bU.eX _ _ _ _ (by omega)]
  split
  ·exact MO (fL.1 hL).1 _ _
  ·exact vJ hL h h2 n (by omega) j hj
structure Sa where
 kind:Int
 slot:Int
 key:Key
 other:Key
def xe (L:List Obj) (a:Sa):Bool:=
 if a.kind=1 then false else if a.kind=2 then decide (bB L a.key a.slot a.other=0)else if a.kind=3 then decide (aO L a.key 2 true=0)else if a.kind=4 then decide (cg L a.key a.other=0)else false
def EU (L:List Obj) (a:Sa):List Obj:=
 if a.kind=1 then L else if a.kind=2 then dN L a.key a.slot a.other else if a.kind=3 then gd L a.key else if a.kind=4 then fA L a.key a.other else L
theorem oT (k:Key):Ar k k=true:=by simp[Ar]
def Sa.wf (x:Sa):Prop:=cj .i64 x.kind/\cj .i64 x.slot/\x.key.wf/\x.other.wf
theorem lD (L:List Obj):fE L L=true:=by unfold fE;simp
theorem CK {L:List Obj} {k:Key} {i:Int} {v:Key} (h:bB L k i v=0):aO L k 2 true=0/\0<=i/\i<16:=by
 unfold bB mo at h;split at h
 ·rename_i h1;split at h
  ·rename_i h2;simp at h2;exact⟨h1,h2.1,h2.2⟩
  ·omega
 ·rename_i h1;exact absurd h h1
theorem vu {L:List Obj} {a:Sa} (hL:ar L) (h:xe L a=true):ar (EU L a):=by
 unfold xe at h;unfold EU;split at h
 ·simp at h
 ·rename_i h1;rw[VM h1];split at h
  ·rename_i h2;rw[VN h2];have h:=VK h;obtain⟨e1,e2,e3⟩:=CK h;obtain⟨a1,a2,_⟩:=kM e1;unfold dN;rw[VN h];exact(ng hL a1 a2 (BT hL a1 a2 e2 e3)).2
  ·rename_i h2;rw[VM h2];split at h
   ·rename_i h3;rw[VN h3];have h:=VK h;obtain⟨a1,a2,_⟩:=kM h;unfold gd;rw[VN h];exact(ng hL a1 a2 (D8 (by omega))).2
   ·rename_i h3;rw[VM h3];split at h
    ·rename_i h4;rw[VN h4];have h:=VK h;have h':=h;unfold cg at h';split at h'
     ·rename_i h5;obtain⟨a1,a2,_⟩:=kM h5;unfold fA;rw[VN h];exact(ng hL a1 a2 (vJ hL a1 a2 16 (by omega))).2
     ·rename_i h5;exact absurd h' h5
    ·simp at h
section
variable {L:List Obj} {k:Key} {s:bU} (h0:0<=k.oid) (h1:k.oid<(L.length:Int))
include h0 h1
end
theorem fO {L:List Obj} {j:Int} (h0:0<=j) (h1:j<(L.length:Int)):aC L j=ak L j.toNat free:=by
 unfold aC;rw[VN (mX.2 ⟨h0,h1⟩)]
theorem eR {L:List Obj} {i:Nat} {x:Obj} (hi:i<L.length) (j:Nat):ak (di L i x) j free=if j=i then x else ak L j free:=by
 by_cases e:j=i
 ·subst e;rw[VN rfl];simp[ak,di,VL,hi]
 ·rw[VM e];simp[ak,di,VL,List.getElem?_set,Ne.symm e]
theorem gS {L:List Obj} {i:Nat} {x:Obj}:(di L i x).length=L.length:=by simp[di]
end Go.Sx
set_option maxRecDepth 100000
namespace Go.Sx
theorem om {κ:Nat->Option Nat} {x a:V} {l m:List V} (h1:e9 κ x=some a) (h2:dU κ l=some m):dU κ (x::l)=some (a::m):=by
 simp only[dU];rw[h1];simp only;rw[h2]
end Go.Sx
set_option maxRecDepth 100000
namespace Go.Sx
def GK {α:Type} (B:lR α) (l:List V):Option α:=match B.rd [] l with
 |some p=>match p.1 with
  | []=>some p.2
  |_=>none
 |none=>none
theorem oi {α:Type} {B:lR α} (hB:ij B) (hid:∀a,k9 (B.cn a 0)=true):∀l x,GK B l=some x->er l (B.cn x 0):=fun l x h=>by
 unfold GK at h;split at h
 case h_2=>simp at h
 rename_i p hp;obtain⟨pls,a⟩:=p;split at h
 case h_2=>simp at h
 rename_i h1;simp only at h1;subst h1;simp only[VE]at h;subst h;obtain⟨_,_,_,b4⟩:=hB _ _ _ _ hp;obtain⟨c1,c2⟩:=b4 [] [];intro J K hk;have e1:=(c1 J K hk).1;have e2:=c2 K hk;have e3:eK (fun _=>False) (B.cn a 0):=mF _ (hid a) e2
 refine⟨?_,mF _ (hid a) e2⟩;rw[<-e1];exact eV (N:=fun _=>False) (fun _ h=>h.elim) _ e3
theorem HV {κ:Nat->Option Nat} {p j:Nat} {bs F:List V} {r:List aB} (hκ:κ p=some j) (hF:k9 F=true) (hb:nI (.tp F) (.tp bs) r):j8 κ (.tp (.sa p::bs)) (.tp (.sa j::F)):=by
 intro ρ2 ρ3 N N' h1 h2 hv;obtain⟨hp,hbs⟩:=hv;obtain⟨e1,e2,_⟩:=cM hb ρ2 N;obtain⟨a1,a2,a3,a4,a5,a6⟩:=h1 p j hκ;have hFN:eK N F:=e2 hbs;have hF0:eK (fun _=>False) F:=mF _ hF hFN
 have e3:bf ρ3 F=bf ρ2 F:=eV (N:=fun _=>False) (fun _ h=>h.elim) _ hF0
 simp only[den,Value.tuple.injEq]at e1;have e1:bf ρ2 bs=bf ρ2 F:=by simpa using e1
 refine⟨?_,h2 p j hκ hp,mF _ hF hFN⟩;simp only[den,bf,e3,e1,a2,a4,a5]
def RX {α:Type} (B:List V->Option α) (R:α->Prop) (Q:List Obj->α->Prop) (F:List Obj->α->V) (M:List Obj->α->List Obj):np:=fun args res K=>
 match args with
 |a::l=>match B l with
  |some x=>R x/\match a with
   | .nl v=>match v with
     | .pointer none=>K (F [] x) res
     |_=>False
   | .lp k off=>if off==0 then match an res k with
     | .store t e L=>if t==tS&&e==eS then Q L x/\K (F L x) (br res k (.store tS eS (M L x)))else False
     | .blk t c=>if t==tS&&R6 c then K (F [] x) res else False
     |_=>False
     else False
   |_=>False
  |none=>False
 |_=>False
theorem zi {P:Program} {f:Nat} {α:Type} {B:List V->Option α} {m:α->List V} {R:α->Prop} {Q:List Obj->α->Prop} {F:List Obj->α->V} {M:List Obj->α->List Obj} (hB:∀l x,B l=some x->er l (m x)) (hid:∀x,k9 (m x)=true) (hF:∀L x,j4 (F L x)=true)
  (h0:∀x,R x->aj P f (gX::m x) [] (nI (F [] x)) (fun _ _=>False)) (hz:∀x,R x->aj P f (.lp 0 0::m x) [.ro (.blk tS T7)] (nI (F [] x)) (fun _ _=>False))
  (h1:∀L x,Q L x->aj P f (.lp 0 0::m x) [.store tS eS L] (zt (F L x) (M L x)) (fun _ _=>False)):oP P f (RX B R Q F M):=by
 intro args res K KP h;unfold RX at h;split at h
 case h_2=>exact h.elim
 split at h
 case h_2=>exact h.elim
 rename_i x hx;obtain⟨hR,h⟩:=h;refine aj.args (er.kL (hB _ _ hx)) ?_;split at h
 ·split at h
  ·exact aj.pure (by simp only[k9,j4,Bool.true_and];exact hid x) (hF _ _) ((h0 x hR).mono (fun _ _ h=>cM h) fun _ _ h=>h) h
  ·exact h.elim
 ·split at h
  ·rename_i hoff;have hoff:=VI.1 hoff;subst hoff;split at h
   ·rename_i hr;split at h
    ·rename_i hc;simp only[VG,VI]at hc;obtain⟨rfl,rfl⟩:=hc;exact aj.Ac hr (hid x) (hF _ _) ((h1 _ x h.1).mono (fun v r hv=>EM hv |> fun⟨a,b⟩=>⟨fun J K=>a J K,b⟩) fun _ _ h=>h) h.2
    ·exact h.elim
   ·rename_i hr;split at h
    ·rename_i hc;simp only[VG,VI]at hc;obtain⟨rfl,hz'⟩:=hc;have:=vr hz';subst this;exact aj.Lh (r0:= .blk tS T7) (by unfold cT;rw[hr];rfl) (by simp) (fun κ=>rfl) (hid x) (hF _ _) ((hz x hR).mono (fun _ _ h=>cM h) fun _ _ h=>h) h
    ·exact h.elim
   ·exact h.elim
  ·exact h.elim
 ·exact h.elim
def c8 (n:Int):Key:=⟨1,0,0,0,0,n⟩
theorem cH {L:List Obj} (h:ar L) (j:Nat) (hj:j<L.length):bq (ak L j free) (L.length:Int)=true:=(fL.1 h).2.2 j hj
theorem jm {L:List Obj} (h:ar L):1<=L.length/\L.length<=64:=⟨(fL.1 h).1,(fL.1 h).2.1⟩
theorem I2 {L M:List Obj} (h:ar L) (hl:M.length=L.length) (hm:∀j,j<L.length->bq (ak M j free) (L.length:Int)=true):ar M:=by
 obtain⟨a,b⟩:=jm h;unfold ar;rw[fL,hl];exact⟨a,b,hm⟩
theorem jj {L:List Obj} {i:Nat} {x:Obj} (h:ar L) (hx:bq x (L.length:Int)=true):ar (di L i x):=by
 by_cases hi:i<L.length
 ·refine I2 h gS fun j hj=>?_
  rw[eR hi];split
  ·exact hx
  ·exact cH h j hj
 ·rw[show di L i x=L from List.set_eq_of_length_le (by omega)];exact h
theorem kr {L:List Obj} {i:Int} {x:Obj} (h0:0<=i) (h1:i<(L.length:Int)) (hx:bq x (L.length:Int)=true):bO L i x=di L i.toNat x/\eU L i x=0:=by
 have e:cI L i=0:=mX.2 ⟨h0,h1⟩;have e2:de x (aq L:Int)=0:=by unfold de;exact VN hx
 exact⟨(rY e e2).2,(rY e e2).1⟩
theorem Oz {n:Int} {s:bU} {k:Key} {j:Nat} (hj:j<16) (h:∀i,i<16->cy n (s.at i)) (hk:cy n k) (i:Nat) (hi:i<16):cy n ((s.put j k).at i):=by
 rw[bU.eX _ _ _ _ hj];split
 ·exact hk
 ·exact h i hi
theorem qe {n:Int} (hn:0<=n) (x:Int):cy n (c8 x):=by
 refine⟨by simp[c8,aS,ei,qB,gD,oJ,eZ],?_⟩
 unfold cO;rw[show gD (c8 x).kind=false by simp[c8,gD]]
 simp;omega
theorem ql {o:Obj} {n:Int} (h:bq o n=true) (hk:o.kind=1) (i:Nat) (hi:i<16):cy n (o.slots.at i):=by
 obtain⟨a1,a2,a3,a4,a5,a6,a7,a8,a9,a10,a11⟩:=ep.1 h;have:=a10 i hi;rw[hk]at this;exact KU.1 this
theorem rQ (o:Obj):z9 o o=true:=by simp[z9]
end Go.Sx
