import Derived.Test.YtlblcfaclmpekaaGreatSxF
set_option linter.unusedSimpArgs false
set_option linter.unusedVariables false
namespace Go.Sx
def fa (h:Bool) (n m:Int):Bool:=if h then decide (0<=n)&&decide (n<=m)else decide (n=0)
def gw (n:Int):Bool:=decide (2<=n)&&decide (n<=7)
def uc (n:Int):Bool:=decide (n=2)||decide (n=3)
def oJ (n:Int):Bool:=decide (n=7)
def qA (n:Int):Bool:=decide (n=1)||decide (n=6)
def ef (n:Int):Int:=if n=2 then 7 else if n=3 then 1 else 0
def aW (k:Key):Bool:=
 decide (0<=k.kind)&&decide (k.kind<=10)&&decide (0<=k.rights)&&decide (k.rights<=ef k.kind)&&(qA k.kind||decide (k.value=0))&&
 fa (gw k.kind) k.oid 63&&fa (gw k.kind) k.count 4294967295&&fa (oJ k.kind) k.call 4294967295
def bT (k:Key):Int:=if aW k then 0 else 2
def cM (k:Key):Int:=if aW k&&gw k.kind then k.oid else -1
def iJ (k:Key):Int:=if cM k<0 then 0 else if k.kind=3 then 2 else 1
def cw (k:Key) (o:Obj):Bool:=
 aW k&&(decide (cM k<0)||(decide (o.kind=iJ k)&&decide (o.count=k.count)&&(!decide (k.kind=7)||decide (o.calls=k.call))))
def O9 (k:Key):Bool:=decide (0<=k.kind)&&decide (k.kind<=10)
def mb (n:Nat):ByteArray:=
 match n with
 |0=> "void".toUTF8
 |1=> "number".toUTF8
 |2=> "node".toUTF8
 |3=> "page".toUTF8
 |4=> "bank".toUTF8
 |5=> "proc".toUTF8
 |6=> "start".toUTF8
 |7=> "resume".toUTF8
 |8=> "discrim".toUTF8
 |9=> "clock".toUTF8
 |10=> "check".toUTF8
 |_=>ByteArray.empty
def kd (s:ByteArray) (a b c d:Bool) (m w:Int):V:= .ag [.st s,.cb a,.cb b,.cb c,.cb d,.ci .i64 m,.ci .i64 w]
def yZ:V:= .ag [kd (mb 0) false false false false 0 0,kd (mb 1) false false false true 0 0,kd (mb 2) true true false false 7 1,kd (mb 3) true true false false 1 2,
 kd (mb 4) true false false false 0 1,kd (mb 5) true false false false 0 1,kd (mb 6) true false false true 0 1,kd (mb 7) true false true false 0 1,
 kd (mb 8) false false false false 0 0,kd (mb 9) false false false false 0 0,kd (mb 10) false false false false 0 0]
def u9 (k:Key):ByteArray:=if O9 k then mb k.kind.toNat else ByteArray.empty
def qa (n:Int):Int:=if n=3 then 2 else if 2<=n/\n<=7 then 1 else 0
def Lc:Ct:=T0 toBool (rI .i64) (rI .i64) fun h n m=> .bo (fa h n m)
def Tv:Ct:=R2 rK fun k=> .tp [.ag [.st (u9 k),.bo (gw k.kind),.bo (uc k.kind),.bo (oJ k.kind),.bo (qA k.kind),.it .i64 (ef k.kind),.it .i64 (qa k.kind)],.bo (aW k)]
def Ti:Ct:=R2 rK fun k=> .it .i64 (bT k)
def aU (k:Key):Bool:=aW k&&gw k.kind
def bJ (k:Key):Int:=if aU k then k.oid else 0
def G4:Ct:=R2 rK fun k=> .tp [.it .i64 (bJ k),.bo (aU k)]
def G6:Ct:=RG rK rO fun k o=> .bo (cw k o)
theorem wrap_i64 {n:Int} (h:cj .i64 n):IntKind.wrap .i64 n=n:=by
 have:=h;simp only[cj]at this;unfold IntKind.wrap;simp[IntKind.bits,IntKind.signed];omega
theorem qX {r:Int} (j:Nat) (hj:j<63) (h0:0<=r) (h1:r<=9223372036854775807):aY .andNot .i64 r ((2^j-1:Nat):Int)=0↔r<2^j:=by
 obtain⟨n,rfl⟩:=Int.eq_ofNat_of_zero_le h0;have hn:n<2^64:=by omega
 have hbit:∀i,(BitVec.ofInt 64 (n:Int)).getLsbD i=n.testBit i:=by
  intro i;rw[BitVec.ofInt_natCast,BitVec.getLsbD_ofNat];by_cases hi:i<64
  ·simp[hi]
  ·rw[Nat.testBit_lt_two_pow (Nat.lt_of_lt_of_le hn (Nat.pow_le_pow_right (by omega) (by omega)))];simp
 have hx:(BitVec.ofInt 64 (n:Int) &&& ~~~BitVec.ofInt 64 ((2^j-1:Nat):Int)).toNat=0↔n<2^j:=by
  constructor
  ·intro h;refine Nat.lt_pow_two_of_testBit _ fun i hi=>?_
   rcases Nat.lt_or_ge i 64 with h64|h64
   ·have h2:(BitVec.ofInt 64 (n:Int) &&& ~~~BitVec.ofInt 64 ((2^j-1:Nat):Int)).getLsbD i=false:=by
     rw[BitVec.getLsbD,h];simp
    rw[BitVec.getLsbD_and,hbit,BitVec.getLsbD_not,BitVec.ofInt_natCast,BitVec.getLsbD_ofNat,Nat.testBit_two_pow_sub_one]at h2;simp only[h64,decide_true,Bool.true_and,show¬i<j by omega,decide_false,Bool.not_false,Bool.and_true]at h2
    exact h2
   ·exact Nat.testBit_lt_two_pow (Nat.lt_of_lt_of_le hn (Nat.pow_le_pow_right (by omega) h64))
  ·intro h
   have:BitVec.ofInt 64 (n:Int) &&& ~~~BitVec.ofInt 64 ((2^j-1:Nat):Int)=0#64:=by
    refine BitVec.eq_of_getLsbD_eq fun i hi=>?_
    rw[BitVec.getLsbD_and,hbit,BitVec.getLsbD_not,BitVec.ofInt_natCast,BitVec.getLsbD_ofNat,Nat.testBit_two_pow_sub_one];by_cases hij:i<j
    ·simp[hij,hi]
    ·rw[Nat.testBit_lt_two_pow (Nat.lt_of_lt_of_le h (Nat.pow_le_pow_right (by omega) (by omega)))];simp
   rw[this];rfl
 have hle:(BitVec.ofInt 64 (n:Int) &&& ~~~BitVec.ofInt 64 ((2^j-1:Nat):Int)).toNat<=n:=by
  rw[BitVec.toNat_and];refine Nat.le_trans Nat.and_le_left ?_;rw[BitVec.ofInt_natCast,BitVec.toNat_ofNat];exact Nat.mod_le _ _
 have hp:((2^j:Nat):Int)=(2:Int)^j:=by simp
 change IntKind.wrap .i64 (((BitVec.ofInt 64 (n:Int) &&& ~~~BitVec.ofInt 64 ((2^j-1:Nat):Int)).toNat:Nat):Int)=0↔_
 generalize (BitVec.ofInt 64 (n:Int) &&& ~~~BitVec.ofInt 64 ((2^j-1:Nat):Int)).toNat=x at *
 rw[wrap_i64 (by simp only[cj];omega),<-hp]
 omega
theorem Ms {r:Int} (h0:0<=r) (h1:r<=9223372036854775807):aY .andNot .i64 r 7=0↔r<=7:=by
 have:=qX 3 (by omega) h0 h1
 rw[show((2^3-1:Nat):Int)=7 from rfl,show(2:Int)^3=8 from rfl]at this;rw[this];omega
theorem Ni {r:Int} (h0:0<=r) (h1:r<=9223372036854775807):aY .andNot .i64 r 1=0↔r<=1:=by
 have:=qX 1 (by omega) h0 h1
 rw[show((2^1-1:Nat):Int)=1 from rfl,show(2:Int)^1=2 from rfl]at this;rw[this];omega
theorem Ok {r:Int} (h0:0<=r) (h1:r<=9223372036854775807):aY .andNot .i64 r 0=0↔r<=0:=by
 have:=qX 0 (by omega) h0 h1
 rw[show((2^0-1:Nat):Int)=0 from rfl,show(2:Int)^0=1 from rfl]at this;rw[this];omega
theorem IV {r m:Int} {b:Bool} (h:0<=r->(b=decide (r<=m))):(decide (0<=r)&&b)=(decide (0<=r)&&decide (r<=m)):=by
 by_cases h0:0<=r
 ·rw[h h0]
 ·simp[h0]
end Go.Sx
namespace Go.Proofs.YtlblcfaclmpekaaGreat
open Go.Sx
set_option maxRecDepth 100000
theorem Fs (h:Bool) (n m:Int):
 (h&&decide (0<=n)&&decide (n<=m)|| !h&&decide (n=0))=fa h n m:=by
 unfold fa;cases h<;>simp
theorem Fm:dD Tryz.prog 105 Lc:=
 Lr Ky (gJ .i64) (gJ .i64) (fun _ _ _=>rfl) fun h n m _ _ _=>bx (inl:=ca) (ann:=aV) ay (Fs h n m) (by kernel_rfl)
theorem IG:dD Tryz.prog 104 (RP yZ):=
 RE rfl (bx (inl:=ca) (ann:=aV) ay (G:=yZ=yZ) rfl (by kernel_rfl):ak _ _ _ _ (fun v _=>v=yZ) (fun _ _=>False))
theorem QM (k:Key) (hk:k.wf):
 ((decide (k.kind<0)||decide (10<k.kind))=true->
   {data:= {toList:= []}}=u9 k/\
    false=gw k.kind/\
     false=uc k.kind/\
      false=oJ k.kind/\false=qA k.kind/\0=ef k.kind/\0=qa k.kind/\false=aW k)/\
   ((decide (k.kind<0)||decide (10<k.kind))=false->
     (0<=k.kind/\k.kind< ↑11)/\
      aq [mb 0,mb 1,mb 2,mb 3,mb 4,mb 5,mb 6,mb 7,mb 8,mb 9,mb 10] k.kind.toNat
          {data:= {toList:= []}}=
        u9 k/\
       aq [false,false,true,true,true,true,true,true,false,false,false] k.kind.toNat false=
         gw k.kind/\
        aq [false,false,true,true,false,false,false,false,false,false,false] k.kind.toNat false=
          uc k.kind/\
         aq [false,false,false,false,false,false,false,true,false,false,false] k.kind.toNat false=
           oJ k.kind/\
          aq [false,true,false,false,false,false,true,false,false,false,false] k.kind.toNat false=
            qA k.kind/\
           aq [0,0,7,1,0,0,0,0,0,0,0] k.kind.toNat 0=ef k.kind/\
            aq [0,0,1,2,1,1,1,1,0,0,0] k.kind.toNat 0=qa k.kind/\
             (fa
                (aq [false,false,true,true,true,true,true,true,false,false,false]
                 k.kind.toNat false)
                k.oid 63&&
                fa
                 (aq [false,false,true,true,true,true,true,true,false,false,false]
                  k.kind.toNat false)
                 k.count 4294967295&&
                fa
                 (aq [false,false,false,false,false,false,false,true,false,false,false]
                  k.kind.toNat false)
                 k.call 4294967295&&
                decide (0<=k.rights)&&
                decide
                 (aY BinOp.andNot IntKind.i64 k.rights
                   (aq [0,0,7,1,0,0,0,0,0,0,0] k.kind.toNat 0)=
                  0)&&
               (aq [false,true,false,false,false,false,true,false,false,false,false] k.kind.toNat
                 false||
                decide (k.value=0)))=
              aW k):=by
 obtain⟨kind,oid,count,call,rights,value⟩:=k;have hr:rights<=9223372036854775807:=hk.2.2.2.2.1.2;simp only;have he:(ByteArray.empty:ByteArray)= {data:= {toList:= []}}:=rfl;refine⟨fun h=>?_,fun h=>?_⟩
 ·simp only[Bool.or_eq_true,VL]at h;refine⟨?_,?_,?_,?_,?_,?_,?_,?_⟩<;>simp only[u9,O9,gw,uc,oJ,qA,ef,qa,aW]<;>grind
 ·simp only[Bool.or_eq_false_iff,decide_eq_false_iff_not]at h;have hb:∀m,(0<=rights->(decide (aY .andNot .i64 rights m=0))=decide (rights<=m))->(decide (0<=rights)&&decide (aY .andNot .i64 rights m=0))=(decide (0<=rights)&&decide (rights<=m)):=fun m hm=>IV hm
  have h7:=hb 7 fun h0=>by rw[decide_eq_decide];exact Ms h0 hr
  have h1:=hb 1 fun h0=>by rw[decide_eq_decide];exact Ni h0 hr
  have h0:=hb 0 fun h0=>by rw[decide_eq_decide];exact Ok h0 hr
  have hc:kind=0\/kind=1\/kind=2\/kind=3\/kind=4\/kind=5\/kind=6\/kind=7\/kind=8\/kind=9\/kind=10:=by omega
  rcases hc with rfl|rfl|rfl|rfl|rfl|rfl|rfl|rfl|rfl|rfl|rfl<;>
   refine⟨⟨by decide,by decide⟩,rfl,rfl,rfl,rfl,rfl,rfl,rfl,?_⟩<;>
   simp only[aq,aW,gw,qA,oJ,ef,Int.reduceToNat,List.getD_cons_zero,List.getD_cons_succ,Bool.and_assoc]<;>
   simp+decide [fa]<;>grind
theorem wK:dD Tryz.prog 67 Tv:=
 zI iw (fun _=>rfl) fun k hk=>bx (inl:=ca) (ann:=aV) (ae Fm (ae IG ay)) (QM k hk) (by kernel_rfl)
theorem N7 (k:Key) (hk:k.wf):
 ((!aW k)=true->2=bT k)/\((!aW k)=false->0=bT k):=by
 unfold bT;cases aW k<;>simp
theorem fc:dD Tryz.prog 69 Ti:=
 zI iw (fun _=>rfl) fun k hk=>bx (inl:=ca) (ann:=aV) (ae wK ay) (N7 k hk) (by kernel_rfl)
theorem Fq (k:Key) (hk:k.wf):
 ((!aW k|| !gw k.kind)=true->0=bJ k/\false=aU k)/\
   ((!aW k|| !gw k.kind)=false->k.oid=bJ k/\true=aU k):=by
 unfold bJ aU;cases aW k<;>cases gw k.kind<;>simp
theorem cF:dD Tryz.prog 46 G4:=
 zI iw (fun _=>rfl) fun k hk=>bx (inl:=ca) (ann:=aV) (ae wK ay) (Fq k hk) (by kernel_rfl)
theorem De (k:Key) (o:Sx.Obj) (hk:k.wf):
 ((!aW k)=true->false=cw k o)/\
   ((!aW k)=false->
     ((!gw k.kind)=true->true=cw k o)/\
       ((!gw k.kind)=false->
         (decide (o.kind=qa k.kind)&&decide (o.count=k.count)&&
           (!oJ k.kind||decide (o.calls=k.call)))=
          cw k o)):=by
 cases hok:aW k
 ·simp[cw,hok]
 ·have h0:gw k.kind=true->0<=k.oid:=fun h=>by
   simp only[aW,fa,h,if_true,VK,VL]at hok;omega
  simp only[cw,iJ,cM,qa,oJ,hok,Bool.true_and];simp only[gw]at *;grind
theorem vV:dD Tryz.prog 47 G6:=
 wm iw Bk (fun _ _=>rfl) fun k o hk _=>bx (inl:=ca) (ann:=aV) (ae wK ay) (De k o hk) (by kernel_rfl)
end Go.Proofs.YtlblcfaclmpekaaGreat
namespace Go.Sx
def kM (kind n:Int) (k:Key):Bool:=aW k&&decide (cM k<n)&&(decide (kind=1)||decide (k=void))
def bu (o:Obj) (n:Int):Bool:=
 decide (1<=n)&&decide (n<=64)&&decide (0<=o.kind)&&decide (o.kind<=3)&&decide (0<=o.count)&&decide (o.count<=4294967295)&&decide (0<=o.calls)&&decide (o.calls<=4294967295)&&
 (decide (o.kind=1)||decide (o.calls=0))&&(List.range 16).all (fun i=>kM o.kind n (o.slots.at i))&&
 (List.range 64).all (fun i=>decide (o.kind=1)||decide (o.kind=2)||decide (o.bytes.at i=0))
def dc (o:Obj) (n:Int):Int:=if bu o n then 0 else 2
def j3 (o:Obj) (b:Bool):Bool:=decide (o.slots=fY)&&(b||decide (o.bytes=ev))&&decide (o.calls=0)
def nb (o:Obj) (n:Int) (i:Int):Bool:=(List.range i.toNat).all fun j=>aW (o.slots.at j)&&decide (cM (o.slots.at j)<n)
def Ac (i:Int):Prop:=0<=i/\i<=16
def PS:Ct:=RG rO toBool fun o b=> .bo (j3 o b)
def Pn:Ct:=RG rO (rI .i64) fun o n=> .it .i64 (dc o n)
theorem eo {o:Obj} {n:Int}:bu o n=true↔1<=n/\n<=64/\0<=o.kind/\o.kind<=3/\0<=o.count/\o.count<=4294967295/\0<=o.calls/\o.calls<=4294967295/\
  (o.kind=1\/o.calls=0)/\(∀i,i<16->kM o.kind n (o.slots.at i)=true)/\∀i,i<64->(o.kind=1\/o.kind=2)\/o.bytes.at i=0:=by
 simp only[bu,VK,VL,Bool.or_eq_true,List.all_eq_true,List.mem_range,and_assoc]
theorem vl {o:Obj} {n:Int} (h:¬bu o n=true):2=dc o n:=by simp[dc,h]
theorem rN {o:Obj} {n:Int} (h:bu o n=true):0=dc o n:=by simp[dc,h]
theorem EP {s:bV}:s=fY↔ ∀i,i<16->s.at i=void:=by
 constructor
 ·rintro rfl i _;exact vR i
 ·intro h;refine Vector.ext fun i hi=>?_
  have:=h i hi;unfold bV.at at this;simp only[fY,Vector.getElem_replicate];rw[<-this];simp[hi]
theorem E2 {s:Bytes}:s=ev↔ ∀i,i<64->s.at i=0:=by
 constructor
 ·rintro rfl i hi
  unfold Bytes.at ev;simp[hi]
 ·intro h;refine Vector.ext fun i hi=>?_
  have:=h i hi;unfold Bytes.at at this;simp only[ev,Vector.getElem_replicate];rw[<-this];simp[hi]
theorem lu:aW void=true/\cM void= -1:=by decide
theorem ub {kind n:Int} (hk:kind≠1) (hn:1<=n) (k:Key):kM kind n k=true↔k=void:=by
 unfold kM;simp only[VK,VL,Bool.or_eq_true];constructor
 ·rintro⟨_,h|h⟩
  ·exact absurd h hk
  ·exact h
 ·rintro rfl
  exact⟨⟨lu.1,by rw[lu.2];omega⟩,.inr rfl⟩
theorem Ka {o:Obj} {b:Bool}:j3 o b=true↔(∀i,i<16->o.slots.at i=void)/\(b=true\/∀i,i<64->o.bytes.at i=0)/\o.calls=0:=by
 simp only[j3,VK,VL,Bool.or_eq_true,EP,E2,and_assoc]
theorem CU {o:Obj} {n:Int} (h1:1<=n) (h2:n<=64) (h3:0<=o.count) (h4:o.count<=4294967295) (h5:0<=o.calls) (h6:o.calls<=4294967295) {b:Bool} (hk:0<=o.kind/\o.kind<=3/\o.kind≠1) (hb:b=decide (o.kind=2)):
  bu o n=j3 o b:=by
 rw[Bool.eq_iff_iff,eo,Ka];subst hb;constructor
 ·rintro⟨_,_,_,_,_,_,_,_,h,hs,hz⟩
  refine⟨fun i hi=>(ub hk.2.2 h1 _).1 (hs i hi),?_,h.resolve_left hk.2.2⟩
  by_cases h2:o.kind=2
  ·exact .inl (by simp[h2])
  ·exact .inr fun i hi=>(hz i hi).resolve_left fun h=>h.elim hk.2.2 h2
 ·rintro⟨hs,hz,hc⟩
  refine⟨h1,h2,hk.1,hk.2.1,h3,h4,h5,h6,.inr hc,fun i hi=>(ub hk.2.2 h1 _).2 (hs i hi),fun i hi=>?_⟩
  rcases hz with h|h
  ·exact .inl (.inr (by simpa using h))
  ·exact .inr (h i hi)
theorem CP {o:Obj} {n:Int} (h1:1<=n) (h2:n<=64) (h3:0<=o.count) (h4:o.count<=4294967295) (h5:0<=o.calls) (h6:o.calls<=4294967295) (hk:o.kind=1):bu o n=nb o n 16:=by
 rw[Bool.eq_iff_iff,eo];simp only[nb,List.all_eq_true,List.mem_range,hk,kM,VK,decide_true,Bool.true_or,and_true];constructor
 ·rintro⟨_,_,_,_,_,_,_,_,_,hs,_⟩
  exact fun i hi=>hs i hi
 ·intro hs;exact⟨h1,h2,by omega,by omega,h3,h4,h5,h6,.inl trivial,fun i hi=>hs i hi,fun i hi=> .inl (.inl trivial)⟩
theorem HS {o:Obj} {n g:Int}:(nb o n g&&decide (bT (o.slots.at g.toNat)=0)&&(!aU (o.slots.at g.toNat)||decide (bJ (o.slots.at g.toNat)<n)))=
  (nb o n g&&(aW (o.slots.at g.toNat)&&(!aU (o.slots.at g.toNat)||decide ((o.slots.at g.toNat).oid<n)))):=by
 unfold bT bJ;cases aW (o.slots.at g.toNat)<;>cases aU (o.slots.at g.toNat)<;>simp
theorem Jm {o:Obj} {n g:Int} (h0:0<=g) (hn:1<=n):(nb o n g&&decide (bT (o.slots.at g.toNat)=0)&&(!aU (o.slots.at g.toNat)||decide (bJ (o.slots.at g.toNat)<n)))=nb o n (g+1):=by
 rw[HS];unfold nb;rw[show(g+1).toNat=g.toNat+1 by omega,List.range_succ,List.all_append]
 simp only[List.all_cons,List.all_nil,Bool.and_true];congr 1
 unfold cM aU;cases aW (o.slots.at g.toNat)
 ·rfl
 ·cases gw (o.slots.at g.toNat).kind
  ·simp;omega
  ·simp
end Go.Sx
namespace Go.Proofs.YtlblcfaclmpekaaGreat
open Go.Sx
set_option maxRecDepth 100000
theorem Ol (o:Sx.Obj) (b:Bool):
 (AD o.slots fY&&(b||BW o.bytes ev)&&decide (o.calls=0))=j3 o b:=by
 unfold j3 AD BW;rfl
theorem MW:dD Tryz.prog 68 PS:=
 wm Bk Ky (fun _ _=>rfl) fun o b _ _=>bx (inl:=ca) (ann:=aV) ay (Ol o b) (by kernel_rfl)
theorem Nq (o:Sx.Obj) (n:Int):
 ((decide (n<1)||decide (64<n)||decide (o.count<0)||decide (4294967295<o.count)||
           decide (o.calls<0)||
    decide (4294967295<o.calls))=
    true->
   2=dc o n)/\
   ((decide (n<1)||decide (64<n)||decide (o.count<0)||decide (4294967295<o.count)||
      decide (o.calls<0)||
      decide (4294967295<o.calls))=
     false->
     (decide (o.kind=0)=true->
       ((!j3 o false)=true->2=dc o n)/\((!j3 o false)=false->0=dc o n))/\
      (decide (o.kind=0)=false->
       (decide (o.kind=3)=true->
         ((!j3 o false)=true->2=dc o n)/\((!j3 o false)=false->0=dc o n))/\
        (decide (o.kind=3)=false->
         (decide (o.kind=2)=true->
           ((!j3 o true)=true->2=dc o n)/\((!j3 o true)=false->0=dc o n))/\
          (decide (o.kind=2)=false->
           (decide (o.kind=1)=true->
             (∃g,Ac g/\n=n/\true=nb o n g/\o.slots=o.slots/\0=g/\o=o)/\
              ∀(g:Int),
               Ac g->
                (decide (g<16)=true->
                  (0<=g/\g< ↑16)/\
                   aP IntKind.i64 (g+1)/\
                    ∃g',
                     Ac g'/\
                      (16-g').toNat<(16-g).toNat/\
                       n=n/\
                        (nb o n g&&decide (bT (o.slots.at g.toNat)=0)&&
                           (!aU (o.slots.at g.toNat)||
                            decide (bJ (o.slots.at g.toNat)<n)))=
                          nb o n g'/\
                         o.slots=o.slots/\g+1=g'/\o=o)/\
                 (decide (g<16)=false->
                  ((!nb o n g)=true->2=dc o n)/\((!nb o n g)=false->0=dc o n)))/\
            (decide (o.kind=1)=false->2=dc o n))))):=by
 refine⟨fun h=>vl fun hh=>?_,fun h=>?_⟩
 ·have:=eo.1 hh;simp only[Bool.or_eq_true,VL]at h;omega
 ·simp only[Bool.or_eq_false_iff,decide_eq_false_iff_not]at h
  have hb:∀(b:Bool),(0<=o.kind/\o.kind<=3/\o.kind≠1)->b=decide (o.kind=2)->((!j3 o b)=true->2=dc o n)/\((!j3 o b)=false->0=dc o n):=fun b h1 h2=>by
   have he:=CU (o:=o) (n:=n) (b:=b) (by omega) (by omega) (by omega) (by omega) (by omega) (by omega) h1 h2
   exact⟨fun hn=>vl (by rw[he];simpa using hn),fun hy=>rN (by rw[he];simpa using hy)⟩
  refine⟨fun h0=>?_,fun h0=>⟨fun h3=>?_,fun h3=>⟨fun h2=>?_,fun h2=>⟨fun h1=>⟨⟨0,⟨by omega,by omega⟩,rfl,rfl,rfl,rfl,rfl⟩,fun g hg=>⟨fun hlt=>?_,fun hge=>?_⟩⟩,fun h1=>vl fun hh=>?_⟩⟩⟩⟩
  ·have h0:=VO h0;exact hb false (by omega) (by simp[h0])
  ·have h3:=VO h3;exact hb false (by omega) (by simp[h3])
  ·have h2:=VO h2;exact hb true (by omega) (by simp[h2])
  ·obtain⟨g0,g1⟩:=hg;have hlt:=VO hlt;refine⟨⟨g0,by omega⟩,by simp only[aP,cj];omega,g+1,⟨by omega,by omega⟩,by omega,rfl,Jm g0 (by omega),rfl,rfl,rfl⟩
  ·obtain⟨g0,g1⟩:=hg;have hge:¬g<16:=VN hge;have h1:=VO h1;have e:g=16:=by omega
   subst e;have he:=CP (o:=o) (n:=n) (by omega) (by omega) (by omega) (by omega) (by omega) (by omega) h1
   exact⟨fun hn=>vl (by rw[he];simpa using hn),fun hy=>rN (by rw[he];simpa using hy)⟩
  ·have:=eo.1 hh;have h0:¬o.kind=0:=VN h0;have h1:¬o.kind=1:=VN h1;have h2:¬o.kind=2:=VN h2;have h3:¬o.kind=3:=VN h3;omega
theorem zK:dD Tryz.prog 48 Pn:=
 wm Bk (gJ .i64) (fun _ _=>rfl) fun o n _ _=>bx (inl:=ca) (ann:=(lr [(48,12,TV [1,2,51] (fun g=> [(52,.it .i64 g),(5,.bo (nb o n g))]) Ac 16)])) (ae MW (ae fc (ae cF ay))) (Nq o n) (by kernel_rfl)
end Go.Proofs.YtlblcfaclmpekaaGreat
