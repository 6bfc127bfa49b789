import Derived.Test.YtlblcfaclmpekaaGreatSxF
set_option linter.unusedSimpArgs false
set_option linter.unusedVariables false
namespace Go.Sx
def eT (h:Bool) (n m:Int):Bool:=if h then decide (0<=n)&&decide (n<=m)else decide (n=0)
def gm (n:Int):Bool:=decide (2<=n)&&decide (n<=7)
def tC (n:Int):Bool:=decide (n=2)||decide (n=3)
def n9 (n:Int):Bool:=decide (n=7)
def qj (n:Int):Bool:=decide (n=1)||decide (n=6)
def dZ (n:Int):Int:=if n=2 then 7 else if n=3 then 1 else 0
def aP (k:Key):Bool:=
 decide (0<=k.kind)&&decide (k.kind<=10)&&decide (0<=k.rights)&&decide (k.rights<=dZ k.kind)&&(qj k.kind||decide (k.value=0))&&
 eT (gm k.kind) k.oid 63&&eT (gm k.kind) k.count 4294967295&&eT (n9 k.kind) k.call 4294967295
def bM (k:Key):Int:=if aP k then 0 else 2
def cF (k:Key):Int:=if aP k&&gm k.kind then k.oid else -1
def iE (k:Key):Int:=if cF k<0 then 0 else if k.kind=3 then 2 else 1
def b9 (k:Key) (o:Obj):Bool:=
 aP k&&(decide (cF k<0)||(decide (o.kind=iE k)&&decide (o.count=k.count)&&(!decide (k.kind=7)||decide (o.calls=k.call))))
def Ob (k:Key):Bool:=decide (0<=k.kind)&&decide (k.kind<=10)
def lU (n:Nat):ByteArray:=
 match n with
 |0=> "void".toUTF8
 |1=> "number".toUTF8
 |2=> "node".toUTF8
 |3=> "page".toUTF8
 |4=> "bank".toUTF8
 |5=> "proc".toUTF8
 |6=> "start".toUTF8
 |7=> "resume".toUTF8
 |8=> "discrim".toUTF8
 |9=> "clock".toUTF8
 |10=> "check".toUTF8
 |_=>ByteArray.empty
def kd (s:ByteArray) (a b c d:Bool) (m w:Int):V:= .ag [.st s,.cb a,.cb b,.cb c,.cb d,.ci .i64 m,.ci .i64 w]
def yT:V:= .ag [kd (lU 0) false false false false 0 0,kd (lU 1) false false false true 0 0,kd (lU 2) true true false false 7 1,kd (lU 3) true true false false 1 2,
 kd (lU 4) true false false false 0 1,kd (lU 5) true false false false 0 1,kd (lU 6) true false false true 0 1,kd (lU 7) true false true false 0 1,
 kd (lU 8) false false false false 0 0,kd (lU 9) false false false false 0 0,kd (lU 10) false false false false 0 0]
def uR (k:Key):ByteArray:=if Ob k then lU k.kind.toNat else ByteArray.empty
def pP (n:Int):Int:=if n=3 then 2 else if 2<=n/\n<=7 then 1 else 0
def HK:Ct:=SW toBool (rI .i64) (rI .i64) fun h n m=> .bo (eT h n m)
def R8:Ct:=Rf rK fun k=> .tp [.ag [.st (uR k),.bo (gm k.kind),.bo (tC k.kind),.bo (n9 k.kind),.bo (qj k.kind),.it .i64 (dZ k.kind),.it .i64 (pP k.kind)],.bo (aP k)]
def So:Ct:=Rf rK fun k=> .it .i64 (bM k)
def aN (k:Key):Bool:=aP k&&gm k.kind
def bE (k:Key):Int:=if aN k then k.oid else 0
def KB:Ct:=Rf rK fun k=> .tp [.it .i64 (bE k),.bo (aN k)]
def ID:Ct:=Qa rK rO fun k o=> .bo (b9 k o)
theorem wrap_i64 {n:Int} (h:b7 .i64 n):IntKind.wrap .i64 n=n:=by
 have:=h;simp only[b7]at this;unfold IntKind.wrap;simp[IntKind.bits,IntKind.signed];omega
theorem qB {r:Int} (j:Nat) (hj:j<63) (h0:0<=r) (h1:r<=9223372036854775807):aS .andNot .i64 r ((2^j-1:Nat):Int)=0↔r<2^j:=by
 obtain⟨n,rfl⟩:=Int.eq_ofNat_of_zero_le h0;have hn:n<2^64:=by omega
 have hbit:∀i,(BitVec.ofInt 64 (n:Int)).getLsbD i=n.testBit i:=by
  intro i;rw[BitVec.ofInt_natCast,BitVec.getLsbD_ofNat];by_cases hi:i<64
  ·simp[hi]
  ·rw[Nat.testBit_lt_two_pow (Nat.lt_of_lt_of_le hn (Nat.pow_le_pow_right (by omega) (by omega)))];simp
 have hx:(BitVec.ofInt 64 (n:Int) &&& ~~~BitVec.ofInt 64 ((2^j-1:Nat):Int)).toNat=0↔n<2^j:=by
  constructor
  ·intro h;refine Nat.lt_pow_two_of_testBit _ fun i hi=>?_
   rcases Nat.lt_or_ge i 64 with h64|h64
   ·have h2:(BitVec.ofInt 64 (n:Int) &&& ~~~BitVec.ofInt 64 ((2^j-1:Nat):Int)).getLsbD i=false:=by
     rw[BitVec.getLsbD,h];simp
    rw[BitVec.getLsbD_and,hbit,BitVec.getLsbD_not,BitVec.ofInt_natCast,BitVec.getLsbD_ofNat,Nat.testBit_two_pow_sub_one]at h2;simp only[h64,decide_true,Bool.true_and,show¬i<j by omega,decide_false,Bool.not_false,Bool.and_true]at h2
    exact h2
   ·exact Nat.testBit_lt_two_pow (Nat.lt_of_lt_of_le hn (Nat.pow_le_pow_right (by omega) h64))
  ·intro h
   have:BitVec.ofInt 64 (n:Int) &&& ~~~BitVec.ofInt 64 ((2^j-1:Nat):Int)=0#64:=by
    refine BitVec.eq_of_getLsbD_eq fun i hi=>?_
    rw[BitVec.getLsbD_and,hbit,BitVec.getLsbD_not,BitVec.ofInt_natCast,BitVec.getLsbD_ofNat,Nat.testBit_two_pow_sub_one];by_cases hij:i<j
    ·simp[hij,hi]
    ·rw[Nat.testBit_lt_two_pow (Nat.lt_of_lt_of_le h (Nat.pow_le_pow_right (by omega) (by omega)))];simp
   rw[this];rfl
 have hle:(BitVec.ofInt 64 (n:Int) &&& ~~~BitVec.ofInt 64 ((2^j-1:Nat):Int)).toNat<=n:=by
  rw[BitVec.toNat_and];refine Nat.le_trans Nat.and_le_left ?_;rw[BitVec.ofInt_natCast,BitVec.toNat_ofNat];exact Nat.mod_le _ _
 have hp:((2^j:Nat):Int)=(2:Int)^j:=by simp
 change IntKind.wrap .i64 (((BitVec.ofInt 64 (n:Int) &&& ~~~BitVec.ofInt 64 ((2^j-1:Nat):Int)).toNat:Nat):Int)=0↔_
 generalize (BitVec.ofInt 64 (n:Int) &&& ~~~BitVec.ofInt 64 ((2^j-1:Nat):Int)).toNat=x at *
 rw[wrap_i64 (by simp only[b7];omega),<-hp]
 omega
theorem Ly {r:Int} (h0:0<=r) (h1:r<=9223372036854775807):aS .andNot .i64 r 7=0↔r<=7:=by
 have:=qB 3 (by omega) h0 h1
 rw[show((2^3-1:Nat):Int)=7 from rfl,show(2:Int)^3=8 from rfl]at this;rw[this];omega
theorem L6 {r:Int} (h0:0<=r) (h1:r<=9223372036854775807):aS .andNot .i64 r 1=0↔r<=1:=by
 have:=qB 1 (by omega) h0 h1
 rw[show((2^1-1:Nat):Int)=1 from rfl,show(2:Int)^1=2 from rfl]at this;rw[this];omega
theorem Nt {r:Int} (h0:0<=r) (h1:r<=9223372036854775807):aS .andNot .i64 r 0=0↔r<=0:=by
 have:=qB 0 (by omega) h0 h1
 rw[show((2^0-1:Nat):Int)=0 from rfl,show(2:Int)^0=1 from rfl]at this;rw[this];omega
theorem Kc {r m:Int} {b:Bool} (h:0<=r->(b=decide (r<=m))):(decide (0<=r)&&b)=(decide (0<=r)&&decide (r<=m)):=by
 by_cases h0:0<=r
 ·rw[h h0]
 ·simp[h0]
end Go.Sx
namespace Go.Proofs.YtlblcfaclmpekaaGreat
open Go.Sx
set_option maxRecDepth 100000
theorem Fx (h:Bool) (n m:Int):
 (h&&decide (0<=n)&&decide (n<=m)|| !h&&decide (n=0))=eT h n m:=by
 unfold eT;cases h<;>simp
theorem F4:dA Tryz.prog 105 HK:=
 GC Gy (gF .i64) (gF .i64) (fun _ _ _=>rfl) fun h n m _ _ _=>bx (inl:=cw) (ann:=aQ) aq (Fx h n m) (by kernel_rfl)
theorem GG:dA Tryz.prog 104 (Rl yT):=
 Qt rfl (bx (inl:=cw) (ann:=aQ) aq (G:=yT=yT) rfl (by kernel_rfl):aj _ _ _ _ (fun v _=>v=yT) (fun _ _=>False))
theorem P4 (k:Key) (hk:k.wf):
 ((decide (k.kind<0)||decide (10<k.kind))=true->
   {data:= {toList:= []}}=uR k/\
    false=gm k.kind/\
     false=tC k.kind/\
      false=n9 k.kind/\false=qj k.kind/\0=dZ k.kind/\0=pP k.kind/\false=aP k)/\
   ((decide (k.kind<0)||decide (10<k.kind))=false->
     (0<=k.kind/\k.kind< ↑11)/\
      ai [lU 0,lU 1,lU 2,lU 3,lU 4,lU 5,lU 6,lU 7,lU 8,lU 9,lU 10] k.kind.toNat
          {data:= {toList:= []}}=
        uR k/\
       ai [false,false,true,true,true,true,true,true,false,false,false] k.kind.toNat false=
         gm k.kind/\
        ai [false,false,true,true,false,false,false,false,false,false,false] k.kind.toNat false=
          tC k.kind/\
         ai [false,false,false,false,false,false,false,true,false,false,false] k.kind.toNat false=
           n9 k.kind/\
          ai [false,true,false,false,false,false,true,false,false,false,false] k.kind.toNat false=
            qj k.kind/\
           ai [0,0,7,1,0,0,0,0,0,0,0] k.kind.toNat 0=dZ k.kind/\
            ai [0,0,1,2,1,1,1,1,0,0,0] k.kind.toNat 0=pP k.kind/\
             (eT
                (ai [false,false,true,true,true,true,true,true,false,false,false]
                 k.kind.toNat false)
                k.oid 63&&
                eT
                 (ai [false,false,true,true,true,true,true,true,false,false,false]
                  k.kind.toNat false)
                 k.count 4294967295&&
                eT
                 (ai [false,false,false,false,false,false,false,true,false,false,false]
                  k.kind.toNat false)
                 k.call 4294967295&&
                decide (0<=k.rights)&&
                decide
                 (aS BinOp.andNot IntKind.i64 k.rights
                   (ai [0,0,7,1,0,0,0,0,0,0,0] k.kind.toNat 0)=
                  0)&&
               (ai [false,true,false,false,false,false,true,false,false,false,false] k.kind.toNat
                 false||
                decide (k.value=0)))=
              aP k):=by
 obtain⟨kind,oid,count,call,rights,value⟩:=k;have hr:rights<=9223372036854775807:=hk.2.2.2.2.1.2;simp only;have he:(ByteArray.empty:ByteArray)= {data:= {toList:= []}}:=rfl;refine⟨fun h=>?_,fun h=>?_⟩
 ·simp only[Bool.or_eq_true,UT]at h;refine⟨?_,?_,?_,?_,?_,?_,?_,?_⟩<;>simp only[uR,Ob,gm,tC,n9,qj,dZ,pP,aP]<;>grind
 ·simp only[Bool.or_eq_false_iff,decide_eq_false_iff_not]at h;have hb:∀m,(0<=rights->(decide (aS .andNot .i64 rights m=0))=decide (rights<=m))->(decide (0<=rights)&&decide (aS .andNot .i64 rights m=0))=(decide (0<=rights)&&decide (rights<=m)):=fun m hm=>Kc hm
  have h7:=hb 7 fun h0=>by rw[decide_eq_decide];exact Ly h0 hr
  have h1:=hb 1 fun h0=>by rw[decide_eq_decide];exact L6 h0 hr
  have h0:=hb 0 fun h0=>by rw[decide_eq_decide];exact Nt h0 hr
  have hc:kind=0\/kind=1\/kind=2\/kind=3\/kind=4\/kind=5\/kind=6\/kind=7\/kind=8\/kind=9\/kind=10:=by omega
  rcases hc with rfl|rfl|rfl|rfl|rfl|rfl|rfl|rfl|rfl|rfl|rfl<;>
   refine⟨⟨by decide,by decide⟩,rfl,rfl,rfl,rfl,rfl,rfl,rfl,?_⟩<;>
   simp only[ai,aP,gm,qj,n9,dZ,Int.reduceToNat,List.getD_cons_zero,List.getD_cons_succ,Bool.and_assoc]<;>
   simp+decide [eT]<;>grind
theorem vg:dA Tryz.prog 67 R8:=
 yI h9 (fun _=>rfl) fun k hk=>bx (inl:=cw) (ann:=aQ) (ab F4 (ab GG aq)) (P4 k hk) (by kernel_rfl)
theorem LW (k:Key) (hk:k.wf):
 ((!aP k)=true->2=bM k)/\((!aP k)=false->0=bM k):=by
 unfold bM;cases aP k<;>simp
theorem eV:dA Tryz.prog 69 So:=
 yI h9 (fun _=>rfl) fun k hk=>bx (inl:=cw) (ann:=aQ) (ab vg aq) (LW k hk) (by kernel_rfl)
theorem EV (k:Key) (hk:k.wf):
 ((!aP k|| !gm k.kind)=true->0=bE k/\false=aN k)/\
   ((!aP k|| !gm k.kind)=false->k.oid=bE k/\true=aN k):=by
 unfold bE aN;cases aP k<;>cases gm k.kind<;>simp
theorem cy:dA Tryz.prog 46 KB:=
 yI h9 (fun _=>rfl) fun k hk=>bx (inl:=cw) (ann:=aQ) (ab vg aq) (EV k hk) (by kernel_rfl)
theorem C6 (k:Key) (o:Sx.Obj) (hk:k.wf):
 ((!aP k)=true->false=b9 k o)/\
   ((!aP k)=false->
     ((!gm k.kind)=true->true=b9 k o)/\
       ((!gm k.kind)=false->
         (decide (o.kind=pP k.kind)&&decide (o.count=k.count)&&
           (!n9 k.kind||decide (o.calls=k.call)))=
          b9 k o)):=by
 cases hok:aP k
 ·simp[b9,hok]
 ·have h0:gm k.kind=true->0<=k.oid:=fun h=>by
   simp only[aP,eT,h,if_true,US,UT]at hok;omega
  simp only[b9,iE,cF,pP,n9,hok,Bool.true_and];simp only[gm]at *;grind
theorem vE:dA Tryz.prog 47 ID:=
 vl h9 Aq (fun _ _=>rfl) fun k o hk _=>bx (inl:=cw) (ann:=aQ) (ab vg aq) (C6 k o hk) (by kernel_rfl)
end Go.Proofs.YtlblcfaclmpekaaGreat
namespace Go.Sx
def j8 (kind n:Int) (k:Key):Bool:=aP k&&decide (cF k<n)&&(decide (kind=1)||decide (k=void))
def bu (o:Obj) (n:Int):Bool:=
 decide (1<=n)&&decide (n<=64)&&decide (0<=o.kind)&&decide (o.kind<=3)&&decide (0<=o.count)&&decide (o.count<=4294967295)&&decide (0<=o.calls)&&decide (o.calls<=4294967295)&&
 (decide (o.kind=1)||decide (o.calls=0))&&(List.range 16).all (fun i=>j8 o.kind n (o.slots.at i))&&
 (List.range 64).all (fun i=>decide (o.kind=1)||decide (o.kind=2)||decide (o.bytes.at i=0))
def dz (o:Obj) (n:Int):Int:=if bu o n then 0 else 2
def jF (o:Obj) (b:Bool):Bool:=decide (o.slots=fT)&&(b||decide (o.bytes=ej))&&decide (o.calls=0)
def mT (o:Obj) (n:Int) (i:Int):Bool:=(List.range i.toNat).all fun j=>aP (o.slots.at j)&&decide (cF (o.slots.at j)<n)
def zJ (i:Int):Prop:=0<=i/\i<=16
def Qv:Ct:=Qa rO toBool fun o b=> .bo (jF o b)
def QD:Ct:=Qa rO (rI .i64) fun o n=> .it .i64 (dz o n)
theorem ec {o:Obj} {n:Int}:bu o n=true↔1<=n/\n<=64/\0<=o.kind/\o.kind<=3/\0<=o.count/\o.count<=4294967295/\0<=o.calls/\o.calls<=4294967295/\
  (o.kind=1\/o.calls=0)/\(∀i,i<16->j8 o.kind n (o.slots.at i)=true)/\∀i,i<64->(o.kind=1\/o.kind=2)\/o.bytes.at i=0:=by
 simp only[bu,US,UT,Bool.or_eq_true,List.all_eq_true,List.mem_range,and_assoc]
theorem uG {o:Obj} {n:Int} (h:¬bu o n=true):2=dz o n:=by simp[dz,h]
theorem sr {o:Obj} {n:Int} (h:bu o n=true):0=dz o n:=by simp[dz,h]
theorem Dl {s:bN}:s=fT↔ ∀i,i<16->s.at i=void:=by
 constructor
 ·rintro rfl i _;exact wy i
 ·intro h;refine Vector.ext fun i hi=>?_
  have:=h i hi;unfold bN.at at this;simp only[fT,Vector.getElem_replicate];rw[<-this];simp[hi]
theorem DA {s:Bytes}:s=ej↔ ∀i,i<64->s.at i=0:=by
 constructor
 ·rintro rfl i hi
  unfold Bytes.at ej;simp[hi]
 ·intro h;refine Vector.ext fun i hi=>?_
  have:=h i hi;unfold Bytes.at at this;simp only[ej,Vector.getElem_replicate];rw[<-this];simp[hi]
theorem kY:aP void=true/\cF void= -1:=by decide
theorem ub {kind n:Int} (hk:kind≠1) (hn:1<=n) (k:Key):j8 kind n k=true↔k=void:=by
 unfold j8;simp only[US,UT,Bool.or_eq_true];constructor
 ·rintro⟨_,h|h⟩
  ·exact absurd h hk
  ·exact h
 ·rintro rfl
  exact⟨⟨kY.1,by rw[kY.2];omega⟩,.inr rfl⟩
theorem Jt {o:Obj} {b:Bool}:jF o b=true↔(∀i,i<16->o.slots.at i=void)/\(b=true\/∀i,i<64->o.bytes.at i=0)/\o.calls=0:=by
 simp only[jF,US,UT,Bool.or_eq_true,Dl,DA,and_assoc]
theorem CD {o:Obj} {n:Int} (h1:1<=n) (h2:n<=64) (h3:0<=o.count) (h4:o.count<=4294967295) (h5:0<=o.calls) (h6:o.calls<=4294967295) {b:Bool} (hk:0<=o.kind/\o.kind<=3/\o.kind≠1) (hb:b=decide (o.kind=2)):
  bu o n=jF o b:=by
 rw[Bool.eq_iff_iff,ec,Jt];subst hb;constructor
 ·rintro⟨_,_,_,_,_,_,_,_,h,hs,hz⟩
  refine⟨fun i hi=>(ub hk.2.2 h1 _).1 (hs i hi),?_,h.resolve_left hk.2.2⟩
  by_cases h2:o.kind=2
  ·exact .inl (by simp[h2])
  ·exact .inr fun i hi=>(hz i hi).resolve_left fun h=>h.elim hk.2.2 h2
 ·rintro⟨hs,hz,hc⟩
  refine⟨h1,h2,hk.1,hk.2.1,h3,h4,h5,h6,.inr hc,fun i hi=>(ub hk.2.2 h1 _).2 (hs i hi),fun i hi=>?_⟩
  rcases hz with h|h
  ·exact .inl (.inr (by simpa using h))
  ·exact .inr (h i hi)
theorem CV {o:Obj} {n:Int} (h1:1<=n) (h2:n<=64) (h3:0<=o.count) (h4:o.count<=4294967295) (h5:0<=o.calls) (h6:o.calls<=4294967295) (hk:o.kind=1):bu o n=mT o n 16:=by
 rw[Bool.eq_iff_iff,ec];simp only[mT,List.all_eq_true,List.mem_range,hk,j8,US,decide_true,Bool.true_or,and_true];constructor
 ·rintro⟨_,_,_,_,_,_,_,_,_,hs,_⟩
  exact fun i hi=>hs i hi
 ·intro hs;exact⟨h1,h2,by omega,by omega,h3,h4,h5,h6,.inl trivial,fun i hi=>hs i hi,fun i hi=> .inl (.inl trivial)⟩
theorem H2 {o:Obj} {n g:Int}:(mT o n g&&decide (bM (o.slots.at g.toNat)=0)&&(!aN (o.slots.at g.toNat)||decide (bE (o.slots.at g.toNat)<n)))=
  (mT o n g&&(aP (o.slots.at g.toNat)&&(!aN (o.slots.at g.toNat)||decide ((o.slots.at g.toNat).oid<n)))):=by
 unfold bM bE;cases aP (o.slots.at g.toNat)<;>cases aN (o.slots.at g.toNat)<;>simp
theorem Ix {o:Obj} {n g:Int} (h0:0<=g) (hn:1<=n):(mT o n g&&decide (bM (o.slots.at g.toNat)=0)&&(!aN (o.slots.at g.toNat)||decide (bE (o.slots.at g.toNat)<n)))=mT o n (g+1):=by
 rw[H2];unfold mT;rw[show(g+1).toNat=g.toNat+1 by omega,List.range_succ,List.all_append]
 simp only[List.all_cons,List.all_nil,Bool.and_true];congr 1
 unfold cF aN;cases aP (o.slots.at g.toNat)
 ·rfl
 ·cases gm (o.slots.at g.toNat).kind
  ·simp;omega
  ·simp
end Go.Sx
namespace Go.Proofs.YtlblcfaclmpekaaGreat
open Go.Sx
set_option maxRecDepth 100000
theorem Mi (o:Sx.Obj) (b:Bool):
 (Ah o.slots fT&&(b||BU o.bytes ej)&&decide (o.calls=0))=jF o b:=by
 unfold jF Ah BU;rfl
theorem LA:dA Tryz.prog 68 Qv:=
 vl Aq Gy (fun _ _=>rfl) fun o b _ _=>bx (inl:=cw) (ann:=aQ) aq (Mi o b) (by kernel_rfl)
theorem Ny (o:Sx.Obj) (n:Int):
 ((decide (n<1)||decide (64<n)||decide (o.count<0)||decide (4294967295<o.count)||
           decide (o.calls<0)||
    decide (4294967295<o.calls))=
    true->
   2=dz o n)/\
   ((decide (n<1)||decide (64<n)||decide (o.count<0)||decide (4294967295<o.count)||
      decide (o.calls<0)||
      decide (4294967295<o.calls))=
     false->
     (decide (o.kind=0)=true->
       ((!jF o false)=true->2=dz o n)/\((!jF o false)=false->0=dz o n))/\
      (decide (o.kind=0)=false->
       (decide (o.kind=3)=true->
         ((!jF o false)=true->2=dz o n)/\((!jF o false)=false->0=dz o n))/\
        (decide (o.kind=3)=false->
         (decide (o.kind=2)=true->
           ((!jF o true)=true->2=dz o n)/\((!jF o true)=false->0=dz o n))/\
          (decide (o.kind=2)=false->
           (decide (o.kind=1)=true->
             (∃g,zJ g/\n=n/\true=mT o n g/\o.slots=o.slots/\0=g/\o=o)/\
              ∀(g:Int),
               zJ g->
                (decide (g<16)=true->
                  (0<=g/\g< ↑16)/\
                   aL IntKind.i64 (g+1)/\
                    ∃g',
                     zJ g'/\
                      (16-g').toNat<(16-g).toNat/\
                       n=n/\
                        (mT o n g&&decide (bM (o.slots.at g.toNat)=0)&&
                           (!aN (o.slots.at g.toNat)||
                            decide (bE (o.slots.at g.toNat)<n)))=
                          mT o n g'/\
                         o.slots=o.slots/\g+1=g'/\o=o)/\
                 (decide (g<16)=false->
                  ((!mT o n g)=true->2=dz o n)/\((!mT o n g)=false->0=dz o n)))/\
            (decide (o.kind=1)=false->2=dz o n))))):=by
 refine⟨fun h=>uG fun hh=>?_,fun h=>?_⟩
 ·have:=ec.1 hh;simp only[Bool.or_eq_true,UT]at h;omega
 ·simp only[Bool.or_eq_false_iff,decide_eq_false_iff_not]at h
  have hb:∀(b:Bool),(0<=o.kind/\o.kind<=3/\o.kind≠1)->b=decide (o.kind=2)->((!jF o b)=true->2=dz o n)/\((!jF o b)=false->0=dz o n):=fun b h1 h2=>by
   have he:=CD (o:=o) (n:=n) (b:=b) (by omega) (by omega) (by omega) (by omega) (by omega) (by omega) h1 h2
   exact⟨fun hn=>uG (by rw[he];simpa using hn),fun hy=>sr (by rw[he];simpa using hy)⟩
  refine⟨fun h0=>?_,fun h0=>⟨fun h3=>?_,fun h3=>⟨fun h2=>?_,fun h2=>⟨fun h1=>⟨⟨0,⟨by omega,by omega⟩,rfl,rfl,rfl,rfl,rfl⟩,fun g hg=>⟨fun hlt=>?_,fun hge=>?_⟩⟩,fun h1=>uG fun hh=>?_⟩⟩⟩⟩
  ·have h0:=UX h0;exact hb false (by omega) (by simp[h0])
  ·have h3:=UX h3;exact hb false (by omega) (by simp[h3])
  ·have h2:=UX h2;exact hb true (by omega) (by simp[h2])
  ·obtain⟨g0,g1⟩:=hg;have hlt:=UX hlt;refine⟨⟨g0,by omega⟩,by simp only[aL,b7];omega,g+1,⟨by omega,by omega⟩,by omega,rfl,Ix g0 (by omega),rfl,rfl,rfl⟩
  ·obtain⟨g0,g1⟩:=hg;have hge:¬g<16:=UW hge;have h1:=UX h1;have e:g=16:=by omega
   subst e;have he:=CV (o:=o) (n:=n) (by omega) (by omega) (by omega) (by omega) (by omega) (by omega) h1
   exact⟨fun hn=>uG (by rw[he];simpa using hn),fun hy=>sr (by rw[he];simpa using hy)⟩
  ·have:=ec.1 hh;have h0:¬o.kind=0:=UW h0;have h1:¬o.kind=1:=UW h1;have h2:¬o.kind=2:=UW h2;have h3:¬o.kind=3:=UW h3;omega
theorem yU:dA Tryz.prog 48 QD:=
 vl Aq (gF .i64) (fun _ _=>rfl) fun o n _ _=>bx (inl:=cw) (ann:=(kW [(48,12,SX [1,2,51] (fun g=> [(52,.it .i64 g),(5,.bo (mT o n g))]) zJ 16)])) (ab LA (ab eV (ab cy aq))) (Ny o n) (by kernel_rfl)
end Go.Proofs.YtlblcfaclmpekaaGreat
