import Derived.Test.YtmfbohanboiklaaGreatMb8
set_option linter.unusedSimpArgs false
set_option linter.unusedVariables false
set_option maxRecDepth 100000
namespace Go.Sx
def eE(h:Bool)(n m:Int):Bool:=if h then decide (0<=n)&&decide (n<=m)else decide (n=0)
def dt(n:Int):Bool:=decide (2<=n)&&decide (n<=7)
def nK(n:Int):Bool:=decide (n=2)||decide (n=3)
def ft(n:Int):Bool:=decide (n=7)
def iU(n:Int):Bool:=decide (n=1)||decide (n=6)
def ea(n:Int):Int:=if n=2 then 7 else if n=3 then 1 else 0
def bc(k:Key):Bool:=
 decide (0<=k.kind)&&decide (k.kind<=10)&&decide (0<=k.rights)&&decide (k.rights<=ea k.kind)&&(iU k.kind||decide (k.value=0))&&
 eE (dt k.kind) k.oid 63&&eE (dt k.kind) k.count 4294967295&&eE (ft k.kind) k.call 4294967295
def bF(k:Key):Int:=if bc k then 0 else 2
def bu(k:Key):Int:=if bc k&&dt k.kind then k.oid else -1
def fX(k:Key):Int:=if bu k<0 then 0 else if k.kind=3 then 2 else 1
def cy(k:Key)(o:Obj):Bool:=
 bc k&&(decide (bu k<0)||(decide (o.kind=fX k)&&decide (o.count=k.count)&&(!decide (k.kind=7)||decide (o.calls=k.call))))
def UD(k:Key):Bool:=decide (0<=k.kind)&&decide (k.kind<=10)
def nf(n:Nat):ByteArray:=
 match n with
 |0=> "void".toUTF8
 |1=> "number".toUTF8
 |2=> "node".toUTF8
 |3=> "page".toUTF8
 |4=> "bank".toUTF8
 |5=> "proc".toUTF8
 |6=> "start".toUTF8
 |7=> "resume".toUTF8
 |8=> "discrim".toUTF8
 |9=> "clock".toUTF8
 |10=> "check".toUTF8
 |_=>ByteArray.empty
def kd(s:ByteArray)(a b c d:Bool)(m w:Int):V:= .ag [.st s,.cb a,.cb b,.cb c,.cb d,.ci .i64 m,.ci .i64 w]
def Br:V:= .ag [kd (nf 0) false false false false 0 0,kd (nf 1) false false false true 0 0,kd (nf 2) true true false false 7 1,kd (nf 3) true true false false 1 2,
 kd (nf 4) true false false false 0 1,kd (nf 5) true false false false 0 1,kd (nf 6) true false false true 0 1,kd (nf 7) true false true false 0 1,
 kd (nf 8) false false false false 0 0,kd (nf 9) false false false false 0 0,kd (nf 10) false false false false 0 0]
def wW(k:Key):ByteArray:=if UD k then nf k.kind.toNat else ByteArray.empty
def rM(n:Int):Int:=if n=3 then 2 else if 2<=n/\n<=7 then 1 else 0
def Lm:Ct:=mk3 toBool (rI .i64) (rI .i64) fun h n m=> .bo (eE h n m)
def Zr:Ct:=QN rK fun k=> .tp [.ag [.st (wW k),.bo (dt k.kind),.bo (nK k.kind),.bo (ft k.kind),.bo (iU k.kind),.it .i64 (ea k.kind),.it .i64 (rM k.kind)],.bo (bc k)]
def YX:Ct:=QN (rI .i64) fun n=> .tp [.bo (dt n),.bo (nK n),.bo (ft n),.bo (iU n)]
def UJ:Ct:=QN rK fun k=> .it .i64 (bF k)
def bq(k:Key):Bool:=bc k&&dt k.kind
def cw(k:Key):Int:=if bq k then k.oid else 0
def Ow:Ct:=QN rK fun k=> .tp [.it .i64 (cw k),.bo (bq k)]
def L3:Ct:=QN rK fun k=> .it .i64 (bu k)
def L5:Ct:=QN rK fun k=> .it .i64 (fX k)
def DY:Ct:=Vu rK rO fun k o=> .bo (cy k o)
theorem wrap_i64{n:Int}(h:ck .i64 n):IntKind.wrap .i64 n=n:=by
 have:=h;simp only[ck]at this;unfold IntKind.wrap;simp[IntKind.bits,IntKind.signed];omega
theorem s9{r:Int}(j:Nat)(hj:j<63)(h0:0<=r)(h1:r<=9223372036854775807):bw .andNot .i64 r ((2^j-1:Nat):Int)=0↔r<2^j:=by
 obtain⟨n,rfl⟩:=Int.eq_ofNat_of_zero_le h0;have hn:n<2^64:=by omega
 have hbit:∀i,(BitVec.ofInt 64 (n:Int)).getLsbD i=n.testBit i:=by
  intro i;rw[BitVec.ofInt_natCast,BitVec.getLsbD_ofNat];by_cases hi:i<64
  ·simp[hi]
  ·rw[Nat.testBit_lt_two_pow (Nat.lt_of_lt_of_le hn (Nat.pow_le_pow_right (by omega) (by omega)))];simp
 have hx:(BitVec.ofInt 64 (n:Int) &&& ~~~BitVec.ofInt 64 ((2^j-1:Nat):Int)).toNat=0↔n<2^j:=by
  constructor
  ·intro h;refine Nat.lt_pow_two_of_testBit _ fun i hi=>?_
   rcases Nat.lt_or_ge i 64 with h64|h64
   ·have h2:(BitVec.ofInt 64 (n:Int) &&& ~~~BitVec.ofInt 64 ((2^j-1:Nat):Int)).getLsbD i=false:=by
     rw[BitVec.getLsbD,h];simp
    rw[BitVec.getLsbD_and,hbit,BitVec.getLsbD_not,BitVec.ofInt_natCast,BitVec.getLsbD_ofNat,Nat.testBit_two_pow_sub_one]at h2;simp only[h64,decide_true,Bool.true_and,show¬i<j by omega,decide_false,Bool.not_false,Bool.and_true]at h2
    exact h2
   ·exact Nat.testBit_lt_two_pow (Nat.lt_of_lt_of_le hn (Nat.pow_le_pow_right (by omega) h64))
  ·intro h
   have:BitVec.ofInt 64 (n:Int) &&& ~~~BitVec.ofInt 64 ((2^j-1:Nat):Int)=0#64:=by
    refine BitVec.eq_of_getLsbD_eq fun i hi=>?_
    rw[BitVec.getLsbD_and,hbit,BitVec.getLsbD_not,BitVec.ofInt_natCast,BitVec.getLsbD_ofNat,Nat.testBit_two_pow_sub_one];by_cases hij:i<j
    ·simp[hij,hi]
    ·rw[Nat.testBit_lt_two_pow (Nat.lt_of_lt_of_le h (Nat.pow_le_pow_right (by omega) (by omega)))];simp
   rw[this];rfl
 have hle:(BitVec.ofInt 64 (n:Int) &&& ~~~BitVec.ofInt 64 ((2^j-1:Nat):Int)).toNat<=n:=by
  rw[BitVec.toNat_and];refine Nat.le_trans Nat.and_le_left ?_;rw[BitVec.ofInt_natCast,BitVec.toNat_ofNat];exact Nat.mod_le _ _
 have hp:((2^j:Nat):Int)=(2:Int)^j:=by simp
 change IntKind.wrap .i64 (((BitVec.ofInt 64 (n:Int) &&& ~~~BitVec.ofInt 64 ((2^j-1:Nat):Int)).toNat:Nat):Int)=0↔_
 generalize (BitVec.ofInt 64 (n:Int) &&& ~~~BitVec.ofInt 64 ((2^j-1:Nat):Int)).toNat=x at *
 rw[wrap_i64 (by simp only[ck];omega),<-hp]
 omega
theorem TH{r:Int}(h0:0<=r)(h1:r<=9223372036854775807):bw .andNot .i64 r 7=0↔r<=7:=by
 have:=s9 3 (by omega) h0 h1
 rw[show((2^3-1:Nat):Int)=7 from rfl,show(2:Int)^3=8 from rfl]at this;rw[this];omega
theorem Th{r:Int}(h0:0<=r)(h1:r<=9223372036854775807):bw .andNot .i64 r 1=0↔r<=1:=by
 have:=s9 1 (by omega) h0 h1
 rw[show((2^1-1:Nat):Int)=1 from rfl,show(2:Int)^1=2 from rfl]at this;rw[this];omega
theorem Q7{r:Int}(h0:0<=r)(h1:r<=9223372036854775807):bw .andNot .i64 r 0=0↔r<=0:=by
 have:=s9 0 (by omega) h0 h1
 rw[show((2^0-1:Nat):Int)=0 from rfl,show(2:Int)^0=1 from rfl]at this;rw[this];omega
theorem Li{r m:Int}{b:Bool}(h:0<=r->(b=decide (r<=m))):(decide (0<=r)&&b)=(decide (0<=r)&&decide (r<=m)):=by
 by_cases h0:0<=r
 ·rw[h h0]
 ·simp[h0]
end Go.Sx
namespace Go.Proofs.YtmfbohanboiklaaGreat
open Go.Sx
theorem Jf(h:Bool)(n m:Int):
 (h&&decide (0<=n)&&decide (n<=m)|| !h&&decide (n=0))=eE h n m:=by
 unfold eE;cases h<;>simp
theorem Jd[Fen]:dq Tryz.prog 79 Lm:=
 Pm Lp (gX .i64) (gX .i64) (fun _ _ _=>rfl) fun h n m _ _ _=>bG (inl:=cg) (ann:=bj) aO (Jf h n m) (by kernel_rfl)
theorem Ot[Fen]:dq Tryz.prog 78 (X5 Br):=
 VR rfl (bG (inl:=cg) (ann:=bj) aO (G:=Br=Br) rfl (by kernel_rfl):aL _ _ _ _ (fun v _=>v=Br) (fun _ _=>False))
abbrev aby(k:Key):=aM [false,false,true,true,true,true,true,true,false,false,false] k.kind.toNat false
theorem Vi(k:Key)(hk:k.wf):
 au (decide (k.kind<0)||decide (10<k.kind)) ({data:={toList:=[]}}=wW k/\false=dt k.kind/\false=nK k.kind/\false=ft k.kind/\false=iU k.kind/\0=ea k.kind/\0=rM k.kind/\false=bc k) ((0<=k.kind/\k.kind< ↑11)/\aM [nf 0,nf 1,nf 2,nf 3,nf 4,nf 5,nf 6,nf 7,nf 8,nf 9,nf 10] k.kind.toNat {data:={toList:=[]}}=wW k/\aM [false,false,true,true,true,true,true,true,false,false,false] k.kind.toNat false=dt k.kind/\aM [false,false,true,true,false,false,false,false,false,false,false] k.kind.toNat false=nK k.kind/\aM [false,false,false,false,false,false,false,true,false,false,false] k.kind.toNat false=ft k.kind/\aM [false,true,false,false,false,false,true,false,false,false,false] k.kind.toNat false=iU k.kind/\aM [0,0,7,1,0,0,0,0,0,0,0] k.kind.toNat 0=ea k.kind/\aM [0,0,1,2,1,1,1,1,0,0,0] k.kind.toNat 0=rM k.kind/\(eE (aby k) k.oid 63&&eE (aby k) k.count 4294967295&&eE (aM [false,false,false,false,false,false,false,true,false,false,false] k.kind.toNat false) k.call 4294967295&&decide (0<=k.rights)&&decide (bw BinOp.andNot IntKind.i64 k.rights (aM [0,0,7,1,0,0,0,0,0,0,0] k.kind.toNat 0)=0)&&(aM [false,true,false,false,false,false,true,false,false,false,false] k.kind.toNat false||decide (k.value=0)))=bc k):=by
 delta au aby
 obtain⟨kind,oid,count,call,rights,value⟩:=k;have hr:rights<=9223372036854775807:=hk.2.2.2.2.1.2;simp only;have he:(ByteArray.empty:ByteArray)= {data:= {toList:= []}}:=rfl;refine⟨fun h=>?_,fun h=>?_⟩
 ·simp only[Bool.or_eq_true,ah]at h;refine⟨?_,?_,?_,?_,?_,?_,?_,?_⟩<;>simp only[wW,UD,dt,nK,ft,iU,ea,rM,bc]<;>grind
 ·simp only[Bool.or_eq_false_iff,decide_eq_false_iff_not]at h;have hb:∀m,(0<=rights->(decide (bw .andNot .i64 rights m=0))=decide (rights<=m))->(decide (0<=rights)&&decide (bw .andNot .i64 rights m=0))=(decide (0<=rights)&&decide (rights<=m)):=fun m hm=>Li hm
  have h7:=hb 7 fun h0=>by rw[decide_eq_decide];exact TH h0 hr
  have h1:=hb 1 fun h0=>by rw[decide_eq_decide];exact Th h0 hr
  have h0:=hb 0 fun h0=>by rw[decide_eq_decide];exact Q7 h0 hr
  have hc:kind=0\/kind=1\/kind=2\/kind=3\/kind=4\/kind=5\/kind=6\/kind=7\/kind=8\/kind=9\/kind=10:=by omega
  rcases hc with rfl|rfl|rfl|rfl|rfl|rfl|rfl|rfl|rfl|rfl|rfl<;>
   refine⟨⟨by decide,by decide⟩,rfl,rfl,rfl,rfl,rfl,rfl,rfl,?_⟩<;>
   simp only[aM,bc,dt,iU,ft,ea,Int.reduceToNat,List.getD_cons_zero,List.getD_cons_succ,Bool.and_assoc]<;>
   simp+decide [eE]<;>grind
theorem zh[Fen]:dq Tryz.prog 58 Zr:=
 qj gI (fun _=>rfl) fun k hk=>bG (inl:=cg) (ann:=bj) (aH Jd (aH Ot aO)) (Vi k hk) (by kernel_rfl)
theorem Rp(k:Key)(hk:k.wf):
 ((!bc k)=true->2=bF k)/\((!bc k)=false->0=bF k):=by
 unfold bF;cases bc k<;>simp
theorem fW[Fen]:dq Tryz.prog 46 UJ:=
 qj gI (fun _=>rfl) fun k hk=>bG (inl:=cg) (ann:=bj) (aH zh aO) (Rp k hk) (by kernel_rfl)
theorem Kj(k:Key)(hk:k.wf):
 ((!bc k|| !dt k.kind)=true->0=cw k/\false=bq k)/\
   ((!bc k|| !dt k.kind)=false->k.oid=cw k/\true=bq k):=by
 unfold cw bq;cases bc k<;>cases dt k.kind<;>simp
theorem dB[Fen]:dq Tryz.prog 32 Ow:=
 qj gI (fun _=>rfl) fun k hk=>bG (inl:=cg) (ann:=bj) (aH zh aO) (Kj k hk) (by kernel_rfl)
theorem F6(k:Key)(o:Sx.Obj)(hk:k.wf):
 au (!bc k) (false=cy k o) (au (!dt k.kind) (true=cy k o) ((decide (o.kind=rM k.kind)&&decide (o.count=k.count)&&(!ft k.kind||decide (o.calls=k.call)))=cy k o)):=by
 delta au
 cases hok:bc k
 ·simp[cy,hok]
 ·have h0:dt k.kind=true->0<=k.oid:=fun h=>by
   simp only[bc,eE,h,if_true,af,ah]at hok;omega
  simp only[cy,fX,bu,rM,ft,hok,Bool.true_and];simp only[dt]at *;grind
theorem xC[Fen]:dq Tryz.prog 70 DY:=
 s7 gI yC (fun _ _=>rfl) fun k o hk _=>bG (inl:=cg) (ann:=bj) (aH zh aO) (F6 k o hk) (by kernel_rfl)
theorem Wq(n:Int):
 (decide (2<=n)&&decide (n<=7))=dt n/\
  (decide (n=2)||decide (n=3))=nK n/\
   decide (n=7)=ft n/\(decide (n=1)||decide (n=6))=iU n:=by
 exact⟨rfl,rfl,rfl,rfl⟩
theorem K7[Fen]:dq Tryz.prog 42 YX:=
 qj (gX .i64) (fun _=>rfl) fun n _=>bG (inl:=cg) (ann:=bj) aO (Wq n) (by kernel_rfl)
abbrev abz(k:Key):=au (dt k.kind&&(decide (k.oid<0)||decide (64<=k.oid)||decide (k.count<0)||decide (4294967295<k.count))|| !dt k.kind&&(!decide (k.oid=0)|| !decide (k.count=0))) (2=bF k) (au (ft k.kind&&(decide (k.call<0)||decide (4294967295<k.call))|| !ft k.kind&& !decide (k.call=0)) (2=bF k) (0=bF k))
abbrev abA(k:Key):=au (decide (k.kind<0)||decide (10<k.kind)||decide (k.rights<0)||decide (1<k.rights)|| !iU k.kind&& !decide (k.value=0)) (2=bF k) (abz k)
theorem QX(k:Key)(hk:k.wf):
 au (nK k.kind) (au (decide (k.kind=3)) (abA k) (au (decide (k.kind<0)||decide (10<k.kind)||decide (k.rights<0)||decide (7<k.rights)|| !iU k.kind&& !decide (k.value=0)) (2=bF k) (abz k))) (au (decide (k.kind=3)) (abA k) (au (decide (k.kind<0)||decide (10<k.kind)||decide (k.rights<0)||decide (0<k.rights)|| !iU k.kind&& !decide (k.value=0)) (2=bF k) (abz k))):=by
 delta au abA abz
 simp only[bF,bc,eE,ea,nK];rcases Bool.eq_false_or_eq_true (dt k.kind)with hA|hA<;>rcases Bool.eq_false_or_eq_true (ft k.kind)with hB|hB<;>rcases Bool.eq_false_or_eq_true (iU k.kind)with hC|hC<;>simp only[hA,hB,hC,Bool.true_and,Bool.false_and,Bool.not_true,Bool.not_false,Bool.or_false,Bool.false_or,Bool.true_or,if_true,Bool.false_eq_true,if_false,Bool.and_true]<;>grind
theorem wX[Fen]:dq Tryz.prog 22 UJ:=
 qj gI (fun _=>rfl) fun k hk=>bG (inl:=cg) (ann:=bj) (aH K7 aO) (QX k hk) (by kernel_rfl)
theorem JW(k:Key)(hk:k.wf):
 ((!decide (bF k=0)|| !dt k.kind)=true-> -1=bu k)/\
   ((!decide (bF k=0)|| !dt k.kind)=false->k.oid=bu k):=by
 unfold bu bF;cases bc k<;>cases dt k.kind<;>simp
theorem oF[Fen]:dq Tryz.prog 23 L3:=
 qj gI (fun _=>rfl) fun k hk=>bG (inl:=cg) (ann:=bj) (aH K7 (aH wX aO)) (JW k hk) (by kernel_rfl)
theorem Iw(k:Key)(hk:k.wf):
 (decide (bu k<0)=true->0=fX k)/\
  (decide (bu k<0)=false->
   (decide (k.kind=3)=true->2=fX k)/\(decide (k.kind=3)=false->1=fX k)):=by
 unfold fX;grind
theorem Iz[Fen]:dq Tryz.prog 69 L5:=
 qj gI (fun _=>rfl) fun k hk=>bG (inl:=cg) (ann:=bj) (aH oF aO) (Iw k hk) (by kernel_rfl)
theorem F5(k:Key)(o:Sx.Obj)(hk:k.wf):
 au (!decide (bF k=0)) (false=cy k o) (au (decide (bu k<0)) (true=cy k o) ((decide (o.kind=fX k)&&decide (o.count=k.count)&&(!decide (k.kind=7)||decide (o.calls=k.call)))=cy k o)):=by
 delta au
 unfold cy bF;cases bc k<;>grind
theorem Fx[Fen]:dq Tryz.prog 43 DY:=
 s7 gI yC (fun _ _=>rfl) fun k o hk _=>bG (inl:=cg) (ann:=bj) (aH wX (aH oF (aH Iz aO))) (F5 k o hk) (by kernel_rfl)
end Go.Proofs.YtmfbohanboiklaaGreat
namespace Go.Sx
def iT(kind n:Int)(k:Key):Bool:=bc k&&decide (bu k<n)&&(decide (kind=1)||decide (k=void))
def bS(o:Obj)(n:Int):Bool:=
 decide (1<=n)&&decide (n<=64)&&decide (0<=o.kind)&&decide (o.kind<=3)&&decide (0<=o.count)&&decide (o.count<=4294967295)&&decide (0<=o.calls)&&decide (o.calls<=4294967295)&&
 (decide (o.kind=1)||decide (o.calls=0))&&(List.range 16).all (fun i=>iT o.kind n (o.slots.at i))&&
 (List.range 64).all (fun i=>decide (o.kind=1)||decide (o.kind=2)||decide (o.bytes.at i=0))
def cT(o:Obj)(n:Int):Int:=if bS o n then 0 else 2
def kQ(o:Obj)(b:Bool):Bool:=decide (o.slots=gW)&&(b||decide (o.bytes=fo))&&decide (o.calls=0)
def Cx(o:Obj)(n:Int)(i:Int):Prop:=0<=i/\i<=16/\∀j:Nat,(j:Int)<i->iT o.kind n (o.slots.at j)=true
def BG(o:Obj)(n:Int)(i:Int):Prop:=0<=i/\i<=64/\(∀j:Nat,j<16->iT o.kind n (o.slots.at j)=true)/\∀j:Nat,(j:Int)<i->(o.kind=1\/o.kind=2\/o.bytes.at j=0)
def oQ(o:Obj)(n:Int)(i:Int):Bool:=(List.range i.toNat).all fun j=>bc (o.slots.at j)&&decide (bu (o.slots.at j)<n)
def B3(i:Int):Prop:=0<=i/\i<=16
def Wy:Ct:=Vu rO toBool fun o b=> .bo (kQ o b)
def Mr:Ct:=Vu rO (rI .i64) fun o n=> .it .i64 (cT o n)
theorem dU{o:Obj}{n:Int}:bS o n=true↔1<=n/\n<=64/\0<=o.kind/\o.kind<=3/\0<=o.count/\o.count<=4294967295/\0<=o.calls/\o.calls<=4294967295/\
  (o.kind=1\/o.calls=0)/\(∀i,i<16->iT o.kind n (o.slots.at i)=true)/\∀i,i<64->(o.kind=1\/o.kind=2)\/o.bytes.at i=0:=by
 simp only[bS,af,ah,Bool.or_eq_true,List.all_eq_true,List.mem_range,and_assoc]
theorem pR{o:Obj}{n:Int}(h:¬bS o n=true):2=cT o n:=by simp[cT,h]
theorem rz{o:Obj}{n:Int}(h:bS o n=true):0=cT o n:=by simp[cT,h]
theorem IW(kind n:Int)(k:Key):(!decide (bF k=0)||decide (n<=bu k)|| !decide (kind=1)&& !ER k void)= !iT kind n k:=by
 unfold iT bF ER;cases bc k<;>grind
theorem QT(b:UInt8):decide (QZ b=0)=decide (b=0):=by
 rw[decide_eq_decide,QZ];constructor
 ·intro h;have:b.toNat=0:=by omega
  exact UInt8.toNat_inj.1 (by simpa using this)
 ·rintro rfl;rfl
theorem G5{s:cC}:s=gW↔ ∀i,i<16->s.at i=void:=by
 constructor
 ·rintro rfl i _;exact sX i
 ·intro h;refine Vector.ext fun i hi=>?_
  have:=h i hi;unfold cC.at at this;simp only[gW,Vector.getElem_replicate];rw[<-this];simp[hi]
theorem He{s:Bytes}:s=fo↔ ∀i,i<64->s.at i=0:=by
 constructor
 ·rintro rfl i hi
  unfold Bytes.at fo;simp[hi]
 ·intro h;refine Vector.ext fun i hi=>?_
  have:=h i hi;unfold Bytes.at at this;simp only[fo,Vector.getElem_replicate];rw[<-this];simp[hi]
theorem mC:bc void=true/\bu void= -1:=by decide
theorem wh{kind n:Int}(hk:kind≠1)(hn:1<=n)(k:Key):iT kind n k=true↔k=void:=by
 unfold iT;simp only[af,ah,Bool.or_eq_true];constructor
 ·rintro⟨_,h|h⟩
  ·exact absurd h hk
  ·exact h
 ·rintro rfl
  exact⟨⟨mC.1,by rw[mC.2];omega⟩,.inr rfl⟩
theorem OW{o:Obj}{b:Bool}:kQ o b=true↔(∀i,i<16->o.slots.at i=void)/\(b=true\/∀i,i<64->o.bytes.at i=0)/\o.calls=0:=by
 simp only[kQ,af,ah,Bool.or_eq_true,G5,He,and_assoc]
theorem Gr{o:Obj}{n:Int}(h1:1<=n)(h2:n<=64)(h3:0<=o.count)(h4:o.count<=4294967295)(h5:0<=o.calls)(h6:o.calls<=4294967295){b:Bool}(hk:0<=o.kind/\o.kind<=3/\o.kind≠1)(hb:b=decide (o.kind=2)):
  bS o n=kQ o b:=by
 rw[Bool.eq_iff_iff,dU,OW];subst hb;constructor
 ·rintro⟨_,_,_,_,_,_,_,_,h,hs,hz⟩
  refine⟨fun i hi=>(wh hk.2.2 h1 _).1 (hs i hi),?_,h.resolve_left hk.2.2⟩
  by_cases h2:o.kind=2
  ·exact .inl (by simp[h2])
  ·exact .inr fun i hi=>(hz i hi).resolve_left fun h=>h.elim hk.2.2 h2
 ·rintro⟨hs,hz,hc⟩
  refine⟨h1,h2,hk.1,hk.2.1,h3,h4,h5,h6,.inr hc,fun i hi=>(wh hk.2.2 h1 _).2 (hs i hi),fun i hi=>?_⟩
  rcases hz with h|h
  ·exact .inl (.inr (by simpa using h))
  ·exact .inr (h i hi)
theorem Gi{o:Obj}{n:Int}(h1:1<=n)(h2:n<=64)(h3:0<=o.count)(h4:o.count<=4294967295)(h5:0<=o.calls)(h6:o.calls<=4294967295)(hk:o.kind=1):bS o n=oQ o n 16:=by
 rw[Bool.eq_iff_iff,dU];simp only[oQ,List.all_eq_true,List.mem_range,hk,iT,af,decide_true,Bool.true_or,and_true];constructor
 ·rintro⟨_,_,_,_,_,_,_,_,_,hs,_⟩
  exact fun i hi=>hs i hi
 ·intro hs;exact⟨h1,h2,by omega,by omega,h3,h4,h5,h6,.inl trivial,fun i hi=>hs i hi,fun i hi=> .inl (.inl trivial)⟩
theorem Ns{o:Obj}{n g:Int}:(oQ o n g&&decide (bF (o.slots.at g.toNat)=0)&&(!bq (o.slots.at g.toNat)||decide (cw (o.slots.at g.toNat)<n)))=
  (oQ o n g&&(bc (o.slots.at g.toNat)&&(!bq (o.slots.at g.toNat)||decide ((o.slots.at g.toNat).oid<n)))):=by
 unfold bF cw;cases bc (o.slots.at g.toNat)<;>cases bq (o.slots.at g.toNat)<;>simp
theorem Ma{o:Obj}{n g:Int}(h0:0<=g)(hn:1<=n):(oQ o n g&&decide (bF (o.slots.at g.toNat)=0)&&(!bq (o.slots.at g.toNat)||decide (cw (o.slots.at g.toNat)<n)))=oQ o n (g+1):=by
 rw[Ns];unfold oQ;rw[show(g+1).toNat=g.toNat+1 by omega,List.range_succ,List.all_append]
 simp only[List.all_cons,List.all_nil,Bool.and_true];congr 1
 unfold bu bq;cases bc (o.slots.at g.toNat)
 ·rfl
 ·cases dt (o.slots.at g.toNat).kind
  ·simp;omega
  ·simp
end Go.Sx
namespace Go.Proofs.YtmfbohanboiklaaGreat
open Go.Sx
theorem Sc(o:Sx.Obj)(b:Bool):
 (Dv o.slots gW&&(b||CO o.bytes fo)&&decide (o.calls=0))=kQ o b:=by
 unfold kQ Dv CO;rfl
theorem TU[Fen]:dq Tryz.prog 95 Wy:=
 s7 yC Lp (fun _ _=>rfl) fun o b _ _=>bG (inl:=cg) (ann:=bj) aO (Sc o b) (by kernel_rfl)
theorem NM(o:Sx.Obj)(n:Int):
 au (decide (n<1)||decide (64<n)||decide (o.kind<0)||decide (3<o.kind)||decide (o.count<0)||decide (4294967295<o.count)||decide (o.calls<0)||decide (4294967295<o.calls)|| !decide (o.kind=1)&& !decide (o.calls=0)) (2=cT o n) ((∃g,Cx o n g/\n=n/\o.kind=o.kind/\0=g/\o=o)/\∀(g:Int),Cx o n g->au (decide (g<16)) ((0<=g/\g< ↑16)/\((!!decide (bF (o.slots.at g.toNat)=0))=true->0<=g/\g< ↑16)/\((!decide (o.kind=1)&& !(!decide (bF (o.slots.at g.toNat)=0)||decide (n<=bu (o.slots.at g.toNat))))=true->0<=g/\g< ↑16)/\au (!decide (bF (o.slots.at g.toNat)=0)||decide (n<=bu (o.slots.at g.toNat))|| !decide (o.kind=1)&& !ER (o.slots.at g.toNat) void) (2=cT o n) (az (g+1)/\∃g',Cx o n g'/\(16-g').toNat<(16-g).toNat/\n=n/\o.kind=o.kind/\g+1=g'/\o=o)) ((∃g,BG o n g/\n=n/\o.kind=o.kind/\0=g/\o=o)/\∀(g:Int),BG o n g->au (decide (g<64)) (((!decide (o.kind=1)&& !decide (o.kind=2))=true->0<=g/\g< ↑64)/\au (!decide (o.kind=1)&& !decide (o.kind=2)&& !decide (QZ (o.bytes.at g.toNat)=0)) (2=cT o n) (az (g+1)/\∃g',BG o n g'/\(64-g').toNat<(64-g).toNat/\n=n/\o.kind=o.kind/\g+1=g'/\o=o)) (0=cT o n))):=by
 delta au az
 refine⟨fun h=>pR fun hh=>?_,fun h=>⟨⟨0,⟨by omega,by omega,fun j hj=>by omega⟩,rfl,rfl,rfl,rfl⟩,fun g hg=>⟨fun hlt=>?_,fun hge=>?_⟩⟩⟩
 ·have:=dU.1 hh;simp only[Bool.or_eq_true,af,Bool.not_eq_true',ah,decide_eq_false_iff_not]at h;omega
 ·obtain⟨g0,g1,g2⟩:=hg;have hlt:=ak hlt;rw[IW];refine⟨⟨g0,by omega⟩,fun _=>⟨g0,by omega⟩,fun _=>⟨g0,by omega⟩,fun hbad=>pR fun hh=>?_,fun hok=>⟨?_,g+1,⟨by omega,by omega,fun j hj=>?_⟩,by omega,rfl,rfl,rfl,rfl⟩⟩
  ·have:=(dU.1 hh).2.2.2.2.2.2.2.2.2.1 g.toNat (by omega)
   rw[this]at hbad;simp at hbad
  ·simp only[bg,ck];omega
  ·by_cases e:(j:Int)<g
   ·exact g2 j e
   ·have:j=g.toNat:=by omega
    subst this;simpa using hok
 ·obtain⟨g0,g1,g2⟩:=hg;have hge:¬g<16:=aj hge;refine⟨⟨0,⟨by omega,by omega,fun j hj=>g2 j (by omega),fun j hj=>by omega⟩,rfl,rfl,rfl,rfl⟩,fun g hg=>⟨fun hlt=>?_,fun hge=>rz ?_⟩⟩
  ·obtain⟨k0,k1,k2,k3⟩:=hg;have hlt:=ak hlt;simp only[QT];refine⟨fun _=>⟨k0,by omega⟩,fun hbad=>pR fun hh=>?_,fun hok=>⟨?_,g+1,⟨by omega,by omega,k2,fun j hj=>?_⟩,by omega,by simp⟩⟩
   ·have:=(dU.1 hh).2.2.2.2.2.2.2.2.2.2 g.toNat (by omega)
    simp only[af,Bool.not_eq_true',decide_eq_false_iff_not]at hbad;grind
   ·simp only[bg,ck];omega
   ·by_cases e:(j:Int)<g
    ·exact k3 j e
    ·have:j=g.toNat:=by omega
     subst this;simp only[Bool.and_eq_false_iff,Bool.not_eq_false',ah]at hok;grind
  ·obtain⟨k0,k1,k2,k3⟩:=hg;have hge:¬g<64:=aj hge;simp only[Bool.or_eq_false_iff,Bool.and_eq_false_iff,Bool.not_eq_false',ah,decide_eq_false_iff_not]at h;refine dU.2 ⟨by omega,by omega,by omega,by omega,by omega,by omega,by omega,by omega,by omega,k2,fun i hi=>?_⟩
   have:=k3 i (by omega)
   grind
theorem PJ[Fen]:dq Tryz.prog 40 Mr:=
 s7 yC (gX .i64) (fun _ _=>rfl) fun o n _ _=>bG (inl:=cg) (ann:=(kb [(40,5,lpI [1,2,5] 6 (Cx o n) 16),(40,10,lpI [1,2,5] 7 (BG o n) 64)])) (aH wX (aH oF aO)) (NM o n) (by kernel_rfl)
theorem Su(o:Sx.Obj)(n:Int):
 au (decide (n<1)||decide (64<n)||decide (o.count<0)||decide (4294967295<o.count)||decide (o.calls<0)||decide (4294967295<o.calls)) (2=cT o n) (au (decide (o.kind=0)) (au (!kQ o false) (2=cT o n) (0=cT o n)) (au (decide (o.kind=3)) (au (!kQ o false) (2=cT o n) (0=cT o n)) (au (decide (o.kind=2)) (au (!kQ o true) (2=cT o n) (0=cT o n)) (au (decide (o.kind=1)) ((∃g,B3 g/\n=n/\true=oQ o n g/\o.slots=o.slots/\0=g/\o=o)/\∀(g:Int),B3 g->au (decide (g<16)) ((0<=g/\g< ↑16)/\bg IntKind.i64 (g+1)/\∃g',B3 g'/\(16-g').toNat<(16-g).toNat/\n=n/\(oQ o n g&&decide (bF (o.slots.at g.toNat)=0)&&(!bq (o.slots.at g.toNat)||decide (cw (o.slots.at g.toNat)<n)))=oQ o n g'/\o.slots=o.slots/\g+1=g'/\o=o) (au (!oQ o n g) (2=cT o n) (0=cT o n))) (2=cT o n))))):=by
 delta au
 refine⟨fun h=>pR fun hh=>?_,fun h=>?_⟩
 ·have:=dU.1 hh;simp only[Bool.or_eq_true,ah]at h;omega
 ·simp only[Bool.or_eq_false_iff,decide_eq_false_iff_not]at h
  have hb:∀(b:Bool),(0<=o.kind/\o.kind<=3/\o.kind≠1)->b=decide (o.kind=2)->((!kQ o b)=true->2=cT o n)/\((!kQ o b)=false->0=cT o n):=fun b h1 h2=>by
   have he:=Gr (o:=o) (n:=n) (b:=b) (by omega) (by omega) (by omega) (by omega) (by omega) (by omega) h1 h2
   exact⟨fun hn=>pR (by rw[he];simpa using hn),fun hy=>rz (by rw[he];simpa using hy)⟩
  refine⟨fun h0=>?_,fun h0=>⟨fun h3=>?_,fun h3=>⟨fun h2=>?_,fun h2=>⟨fun h1=>⟨⟨0,⟨by omega,by omega⟩,rfl,rfl,rfl,rfl,rfl⟩,fun g hg=>⟨fun hlt=>?_,fun hge=>?_⟩⟩,fun h1=>pR fun hh=>?_⟩⟩⟩⟩
  ·have h0:=ak h0;exact hb false (by omega) (by simp[h0])
  ·have h3:=ak h3;exact hb false (by omega) (by simp[h3])
  ·have h2:=ak h2;exact hb true (by omega) (by simp[h2])
  ·obtain⟨g0,g1⟩:=hg;have hlt:=ak hlt;refine⟨⟨g0,by omega⟩,by simp only[bg,ck];omega,g+1,⟨by omega,by omega⟩,by omega,rfl,Ma g0 (by omega),rfl,rfl,rfl⟩
  ·obtain⟨g0,g1⟩:=hg;have hge:¬g<16:=aj hge;have h1:=ak h1;have e:g=16:=by omega
   subst e;have he:=Gi (o:=o) (n:=n) (by omega) (by omega) (by omega) (by omega) (by omega) (by omega) h1
   exact⟨fun hn=>pR (by rw[he];simpa using hn),fun hy=>rz (by rw[he];simpa using hy)⟩
  ·have:=dU.1 hh;have h0:¬o.kind=0:=aj h0;have h1:¬o.kind=1:=aj h1;have h2:¬o.kind=2:=aj h2;have h3:¬o.kind=3:=aj h3;omega
theorem Bm[Fen]:dq Tryz.prog 68 Mr:=
 s7 yC (gX .i64) (fun _ _=>rfl) fun o n _ _=>bG (inl:=cg) (ann:=(kb [(68,12,X2 [1,2,51] (fun g=> [(52,.it .i64 g),(5,.bo (oQ o n g))]) B3 16)])) (aH TU (aH fW (aH dB aO))) (Su o n) (by kernel_rfl)
end Go.Proofs.YtmfbohanboiklaaGreat
namespace Go.Sx
def bN(L:List Obj):Bool:=decide (aJ L=0)
def cj(L:List Obj)(oid:Int):Int:=if aJ L=0 then 1 else if oid<0\/(aJ L:Int)<=oid then 4 else 0
def aS(L:List Obj)(oid:Int):Obj:=if cj L oid=0 then aM L oid.toNat free else free
def aK(L:List Obj):Int:=(aJ L:Int)
def bm(L:List Obj)(k:Key):Bool:=bq k&&decide (cj L k.oid=0)&&cy k (aM L k.oid.toNat free)
def aG(L:List Obj)(k:Key):Obj:=if bm L k then aM L k.oid.toNat free else free
abbrev ay(L:List Obj)(k:Key)(i:Nat):Key:=(aG L k).slots.at i
def aI(L:List Obj)(k:Key):Key:=if bN L|| !bc k||(bq k&& !bm L k)then void else k
def j4(n:Int):Bool:=decide (1<=n)&&decide (n<=64)
def mb(n:Int):List Obj:=List.replicate n.toNat free
def cM(L:List Obj)(i:Int)(o:Obj):List Obj:=if cj L i=0/\cT o (aJ L:Int)=0 then eW L i.toNat o else L
def fa(L:List Obj)(i:Int)(o:Obj):Int:=if cj L i=0 then cT o (aJ L:Int)else cj L i
def eI(l:List Obj):Bool:=decide (1<=aJ l)&&decide (aJ l<=64)&&(List.range (aJ l)).all fun i=>bS (aM l i free) (aJ l:Int)
def jM(l:List Obj)(g:Int):List Obj:=l.take g.toNat++List.replicate (l.length-g.toNat) free
def rr(l:List Obj)(g:Int):Prop:=0<=g/\g<=(aJ l:Int)/\∀j:Nat,(j:Int)<g->bS (aM l j free) (aJ l:Int)=true
def Bq(n i:Int):Prop:=0<=i/\i<=n
abbrev tS:Nat:=57
abbrev eS:Nat:=85
def Ul(c:Bool)(M:List Obj)(v:V)(r:List aQ):Prop:=
 match v with
 | .tp l=>match l with
   | [a,b]=>match a with
     | .nl p=>match p with
       | .pointer none=>c=false/\qh (.ci .i64 2) b r
       |_=>False
     | .lp j off=>match El r j with
       |some (t,e,L)=>if off==0&&t==tS&&e==eS then c=true/\qh (.ci .i64 0) b r/\L=M else False
       |none=>False
     |_=>False
   |_=>False
 |_=>False
def aax(n:Int):V->List aQ->Prop:=Ul (j4 n) (mb n)
def kOf(l:List Obj)(v:V)(r:List aQ):Prop:=
 match aN r 0 with
 | .ro _=>Ul (eI l) l v r
 |_=>False
theorem GO{l:List Obj}{v:V}{r:List aQ}(h:kOf l v r):Ul (eI l) l v r/\El r 0=none:=by
 unfold kOf at h;split at h
 ·rename_i hr;refine⟨h,?_⟩;unfold El Ek;rw[hr]
 ·exact h.elim
def kSt(x:V)(M:List Obj)(v:V)(r:List aQ):Prop:=
 match Ek r 0 with
 |some (t,e,_,L)=>if t==tS&&e==eS then qh x v r/\L=M else False
 |none=>False
def UH:kr:=fun args res K=>
 match args with
 | [a]=>match rI .i64 a with
   |some n=>(j4 n=false->K (.tp [jZ,.ci .i64 2]) res)/\(j4 n=true->K (.tp [.lp res.length 0,.ci .i64 0]) (res++ [.store tS eS (mb n)]))
   |none=>False
 |_=>False
def isZ(c:V):Bool:=
 match c with
 | .ag l=>match l with
   | [x]=>match x with
     | .nl v=>match v with
       | .slice none 0 0=>true
       |_=>false
     |_=>false
   |_=>false
 |_=>false
theorem yp{c:V}(h:isZ c=true):c= .ag [.nl (.slice none 0 0)]:=by
 unfold isZ at h;split at h
 ·split at h
  ·split at h
   ·split at h
    ·rfl
    ·simp at h
   ·simp at h
  ·simp at h
 ·simp at h
def Uc:kr:=fun args res K=>
 match args with
 | [a,b,c]=>match rI .i64 b with
   |some i=>match rO c with
    |some o=>match a with
     | .nl v=>match v with
       | .pointer none=>K (.it .i64 (fa [] i o)) res
       |_=>False
     | .lp k off=>if off==0 then match aN res k with
       | .store t e L=>if t==tS&&e==eS then K (.it .i64 (fa L i o)) (bQ res k (.store tS eS (cM L i o)))else False
       | .blk t c=>if t==tS&&isZ c then K (.it .i64 (fa [] i o)) res else False
       |_=>False
       else False
     |_=>False
    |none=>False
   |none=>False
 |_=>False
structure Stp where
 puts:Bool
 oid:Int
 ob:Obj
def Stp.wf(x:Stp):Prop:=ck .i64 x.oid/\x.ob.wf
def Ry:Ct:=X5 (.bo true)
def lV(L M:List Obj):Bool:=decide (L=M)
def pJ(L M:List Obj)(g:Int):Prop:=0<=g/\g<=(aJ L:Int)/\g<=(aJ M:Int)/\∀j:Nat,(j:Int)<g->aM L j free=aM M j free
def Wp:Ct:=Wb tS eS fun L M=> .bo (lV L M)
def gZ(L M:List Obj)(g:Int):List Int:=((List.range g.toNat).filter fun j=> !Cv (aM L j free) (aM M j free)).map Int.ofNat
def jK(L M:List Obj):Bool:=bN L||bN M|| !decide ((aJ L:Int)=(aJ M:Int))
def dE(L M:List Obj):List Int:=gZ L M (aJ L:Int)
def lh(L:List Obj)(g:Int):List Obj:=L.take g.toNat
def pw(L:List Obj)(g:Int):Prop:=0<=g/\g<=(aJ L:Int)
abbrev Ui:V:= .nl (.slice none 0 0)
abbrev tI:Nat:=3
def EO(L:List Obj)(v:V)(r:List aQ):Prop:=
 match v with
 | .nl p=>match p with
   | .pointer none=>bN L=true
   |_=>False
 | .lp j off=>match El r j with
   |some (t,e,M)=>if off==0&&t==tS&&e==eS&&Nat.ble 1 j then bN L=false/\M=L else False
   |none=>False
 |_=>False
def KJ(L M:List Obj)(v:V)(r:List aQ):Prop:=
 match v with
 | .nl p=>match p with
   | .slice none 0 0=>jK L M=true
   |_=>False
 | .sa j=>match aN r j with
   | .arr own esz l=>match own with
     |some e=>match l with
      | .it k l=>match k with
        | .i64=>if e==tI&&esz==1&&Nat.ble 2 j then jK L M=false/\l=dE L M else False
        |_=>False
      |_=>False
     |none=>False
   |_=>False
 |_=>False
def Ku:kr:=fun args res K=>
 match args with
 | [a]=>match a with
   | .nl v=>match v with
     | .pointer none=>K jZ res
     |_=>False
   | .lp k off=>if off==0 then match cP res k with
     | .store t e L=>if t==tS&&e==eS then aJ L<=1000/\(bN L=true->K jZ res)/\(bN L=false->K (.lp res.length 0) (res++ [.store tS eS L]))else False
     |_=>False
     else False
   |_=>False
 |_=>False
def UC:kr:=fun args res K=>
 match args with
 | [a,b]=>match b with
   | .lp j off=>if off==0 then match cP res j with
     | .store t e M=>if t==tS&&e==eS then match a with
       | .nl v=>match v with
         | .pointer none=>K Ui res
         |_=>False
       | .lp k off'=>if off'==0&& !(k==j)then match cP res k with
         | .store t e L=>if t==tS&&e==eS then aJ L<=1000/\(jK L M=true->K Ui res)/\(jK L M=false->K (.sa res.length) (res++ [.arr (some tI) 1 (.it .i64 (dE L M))]))else False
         |_=>False
         else False
       |_=>False
       else False
     |_=>False
     else False
   |_=>False
 |_=>False
def Hg:Ct:=fun res nid xs=>match xs with
 | [a]=>match rS tS eS res a with
   |some (o,L)=>match o with
    |none=>some (none,.cb true,[])
    |some _=>some (none,.bo (bN L),[])
   |none=>none
 |_=>none
theorem gG{α:Type}(l:List α):bK (aJ l)=(l.length:Int):=rfl
theorem lO{α:Type}(l:List α):((aJ l:Nat):Int)=(l.length:Int):=rfl
def Wz:kr:=fun args res K=>
 match args with
 | [a]=>match a with
   | .sa k=>match cP res k with
     | .arr _ e l=>if e==163 then match l with
       | .ob l=>(eI l=false->K (.tp [jZ,.ci .i64 2]) res)/\(eI l=true->K (.tp [.lp res.length 0,.ci .i64 0]) (res++ [.store tS eS l]))
       |_=>False
       else False
     |_=>False
   |_=>False
 |_=>False
def Sj:Ct:=mkA fun l=> .bo (eI l)
def Jn:Ct:=Qu rK fun l k=> .bo (bm l k)
def Td:Ct:=Qu rK fun l k=> .key (aI l k)
def Ge:Ct:=XL tS eS fun L=> .bo (bN L)
def Z8:Ct:=Kb tS eS (rI .i64) fun L i=> .it .i64 (cj L i)
def Ze:Ct:=Kb tS eS (rI .i64) fun L i=> .tp [.ob (aS L i),.it .i64 (cj L i)]
def Fy:Ct:=XL tS eS fun L=> .it .i64 (aK L)
def QI:Ct:=Kb tS eS rK fun L k=> .tp [.ob (aG L k),.bo (bm L k)]
def V2:Ct:=Kb tS eS rK fun L k=> .key (aI L k)
theorem Ic{n:Nat}(h:n<1000):jU n 8:=by unfold jU;simp only[maxLen];omega
theorem Qe{L:List Obj}{g:Int}(h0:0<=g)(h1:g<(L.length:Int)):cE (lh L g) (aM L g.toNat free)=lh L (g+1):=by
 unfold cE lh aM;rw[show(g+1).toNat=g.toNat+1 by omega,List.take_add_one,an,List.getElem?_eq_getElem (by omega)];rfl
theorem LD{L:List Obj}{g:Int}(h:(L.length:Int)<=g):lh L g=L:=by unfold lh;rw[List.take_of_length_le (by omega)]
theorem KF{L:List Obj}{g:Int}:aJ (lh L g)<=g.toNat:=by unfold aJ lh;rw[List.length_take];omega
theorem LG{L M:List Obj}{g:Int}:aJ (gZ L M g)<=g.toNat:=by
 unfold aJ gZ;rw[List.length_map];exact Nat.le_trans (List.length_filter_le _ _) (by rw[List.length_range];omega)
theorem NL{L M:List Obj}{g:Int}(h0:0<=g)(h:(!Cv (aM L g.toNat free) (aM M g.toNat free))=true):cE (gZ L M g) g=gZ L M (g+1):=by
 unfold cE gZ;rw[show(g+1).toNat=g.toNat+1 by omega,List.range_succ,List.filter_append,List.map_append]
 simp only[List.filter_cons,h,if_true,List.filter_nil,List.map_cons,List.map_nil];congr 2
 show g=((g.toNat:Nat):Int)
 omega
theorem Ta{L M:List Obj}{g:Int}(h0:0<=g)(h:(!Cv (aM L g.toNat free) (aM M g.toNat free))=false):gZ L M g=gZ L M (g+1):=by
 unfold gZ;rw[show(g+1).toNat=g.toNat+1 by omega,List.range_succ,List.filter_append,List.map_append]
 simp only[List.filter_cons,h,Bool.false_eq_true,if_false,List.filter_nil,List.map_nil,List.append_nil]
theorem se:bN []=true:=rfl
theorem AA{L:List Obj}:bN L=true↔L= []:=by
 unfold bN aJ;simp[List.length_eq_zero_iff]
theorem pB(i:Int):cj [] i=1:=rfl
theorem PI{L:List Obj}(h:bN L=false)(i:Int):cj L i=if i<0\/(L.length:Int)<=i then 4 else 0:=by
 have:L≠ []:=fun e=>by rw[e]at h;simp[se]at h
 unfold cj aJ;rw[aq (by simpa[List.length_eq_zero_iff]using this)]
theorem kc{L:List Obj}{i:Int}:cj L i=0↔0<=i/\i<(L.length:Int):=by
 unfold cj aJ;split
 ·omega
 ·split<;>omega
theorem zO(L:List Obj)(k:Key):((!bq k)=true->free=aG L k/\false=bm L k)/\
  ((!bq k)=false->
    ((!decide (cj L (cw k)=0)|| !cy k (aS L (cw k)))=true->
      free=aG L k/\false=bm L k)/\
      ((!decide (cj L (cw k)=0)|| !cy k (aS L (cw k)))=false->
        aS L (cw k)=aG L k/\true=bm L k)):=by
 have fin:∀b,bm L k=b->(b=false->free=aG L k)/\b=bm L k:=fun b h=>⟨fun hb=>by unfold aG;rw[h,hb];rfl,h.symm⟩
 refine⟨fun h=>?_,fun h=>?_⟩
 ·have h:bq k=false:=by simpa using h
  have:=fin false (by unfold bm;rw[h];rfl)
  exact⟨this.1 rfl,this.2⟩
 ·have h:bq k=true:=by simpa using h
  have ho:cw k=k.oid:=by unfold cw;rw[ar h]
  rw[ho];by_cases hh:cj L k.oid=0
  ·have hg:aS L k.oid=aM L k.oid.toNat free:=by unfold aS;rw[ar hh]
   rw[hg];have e:bm L k=cy k (aM L k.oid.toNat free):=by unfold bm;simp[h,hh]
   refine⟨fun hc=>?_,fun hc=>?_⟩
   ·have hc:cy k (aM L k.oid.toNat free)=false:=by simpa[hh]using hc
    have:=fin false (by rw[e,hc])
    exact⟨this.1 rfl,this.2⟩
   ·have hc:cy k (aM L k.oid.toNat free)=true:=by simpa[hh]using hc
    have:=fin true (by rw[e,hc])
    refine⟨?_,this.2⟩;unfold aG;rw[e,hc];rfl
  ·have:=fin false (by unfold bm;simp[hh])
   exact⟨fun _=>⟨this.1 rfl,this.2⟩,fun hc=>by simp[hh]at hc⟩
theorem DE(L:List Obj)(k:Key):((bN L|| !decide (bF k=0))=true->void=aI L k)/\
  ((bN L|| !decide (bF k=0))=false->
    ((bq k&& !bm L k)=true->void=aI L k)/\((bq k&& !bm L k)=false->k=aI L k)):=by
 have hc:(!decide (bF k=0))= !bc k:=by unfold bF;cases bc k<;>simp
 rw[hc];unfold aI;refine⟨fun h=>?_,fun h=>⟨fun h2=>?_,fun h2=>?_⟩⟩
 ·rw[ar];simp only[h,Bool.true_or]
 ·rw[ar];simp only[h2,Bool.or_true]
 ·rw[aq];simp only[h,h2];simp
theorem rE{n:Int}:j4 n=true↔1<=n/\n<=64:=by simp[j4]
theorem Rj{g:Int}(h:0<=g):cE (mb g) free=mb (g+1):=by
 unfold cE mb;rw[show(g+1).toNat=g.toNat+1 by omega,List.replicate_succ']
theorem Hi{i:Int}{o:Obj}:fa [] i o=1:=by unfold fa;rw[pB];rfl
theorem Tr{L:List Obj}{i:Int}{o:Obj}(h:cj L i≠0):fa L i o=cj L i/\cM L i o=L:=by
 unfold fa cM;rw[aq h,aq (fun hh=>h hh.1)];exact⟨rfl,rfl⟩
theorem Wj{L:List Obj}{i:Int}{o:Obj}(h:cj L i=0)(h2:cT o (aJ L:Int)≠0):fa L i o=cT o (aJ L:Int)/\cM L i o=L:=by
 unfold fa cM;rw[ar h,aq (fun hh=>h2 hh.2)];exact⟨rfl,rfl⟩
theorem tT{L:List Obj}{i:Int}{o:Obj}(h:cj L i=0)(h2:cT o (aJ L:Int)=0):fa L i o=0/\cM L i o=eW L i.toNat o:=by
 unfold fa cM;rw[ar h,ar ⟨h,h2⟩];exact⟨h2,rfl⟩
theorem OU{c:Bool}{M:List Obj}(hn:c=false){v:V}{r:List aQ}(h:Ul c M v r):uZ (.tp [jZ,.ci .i64 2]) v []:=by
 unfold Ul at h;split at h
 ·split at h
  ·split at h
   ·split at h
    ·exact TP (dI h.2)
    ·exact h.elim
   ·split at h
    ·split at h
     ·rw[hn]at h;simp at h
     ·exact h.elim
    ·exact h.elim
   ·exact h.elim
  ·exact h.elim
 ·exact h.elim
theorem Tg{c:Bool}{M:List Obj}(hn:c=true){v:V}{r:List aQ}(h:Ul c M v r):∃j b,v= .tp [.lp j 0,b]/\uZ (.ci .i64 0) b []/\El r j=some (tS,eS,M):=by
 unfold Ul at h;split at h
 ·split at h
  ·split at h
   ·split at h
    ·rw[hn]at h;simp at h
    ·exact h.elim
   ·split at h
    ·rename_i hst;split at h
     ·rename_i hc;simp only[af,ai]at hc;obtain⟨⟨rfl,rfl⟩,rfl⟩:=hc;obtain⟨_,h2,rfl⟩:=h;exact⟨_,_,rfl,dI h2,hst⟩
     ·exact h.elim
    ·exact h.elim
   ·exact h.elim
  ·exact h.elim
 ·exact h.elim
theorem G3{c:Bool}{M:List Obj}(hn:c=true){v:V}{r:List aQ}(h:Ul c M v r):∃j r',El r j=some (tS,eS,M)/\(r'=r\/tx r j=some r')/\aN r' j= .store tS eS M/\∀(κ:Nat->Option Nat) (i:Nat),κ j=some i->jS κ v (.tp [.lp i 0,.ci .i64 0]):=by
 obtain⟨j,b,rfl,hb,hst⟩:=Tg hn h
 have ht:∀(κ:Nat->Option Nat) (i:Nat),κ j=some i->jS κ (.tp [.lp j 0,b]) (.tp [.lp i 0,.ci .i64 0]):=fun κ i hi ρ2 ρ3 N N' hv hN hk=>by
  obtain⟨s1,s2,_⟩:=hb ρ2 N;refine⟨?_,hN j i hi hk.1,by simp[ok,ck],trivial⟩
  simp only[den,bI,(hv j i hi).1,s1]
 rcases C4 hst with h1|⟨r',h1,h2⟩
 ·exact⟨j,r,hst,.inl rfl,h1,ht⟩
 ·exact⟨j,r',hst,.inr h1,h2,ht⟩
theorem TI{x:V}{M:List Obj}{v:V}{r:List aQ}(h:kSt x M v r):∃t,Ek r 0=some (tS,eS,t,M)/\uZ x v r:=by
 unfold kSt at h;split at h
 ·rename_i hst;split at h
  ·rename_i hc;simp only[af,ai]at hc;obtain⟨rfl,rfl⟩:=hc;obtain⟨h1,rfl⟩:=h;exact⟨_,hst,dI h1⟩
  ·exact h.elim
 ·exact h.elim
theorem aay[Fen]{P:Program}{f:Nat}{rest:List V}{res:List aQ}{K KP:V->List aQ->Prop}{k:Nat}{L M:List Obj}{x:V}(hr:aN res k= .store tS eS L)(hid:lr rest=true)(hx:jN x=true)
  (h:(∀o∈L,o.wf)->L.length<=9223372036854775807->aL P f (.lp 0 0::rest) [.blk tS (.ag [.sa 1]),.obs eS 2 L,.gen 1] (kSt x M) (fun _ _=>False)) (hK:K x (bQ res k (.store tS eS M))):aL P f (.lp k 0::rest) res K KP:=by
 refine aL.BA hr hid hx ?_ hK;refine aL.fact (k:=0) rfl fun w1 w2=>?_
 refine aL.jY (k:=0) rfl ?_;refine aL.shut (h w1 w2) fun v r hv=>?_
 obtain⟨t,h1,h2⟩:=TI hv;obtain⟨r',g1,g2⟩:=Ac h1;exact .inr ⟨0,r',g1,fun J K=>h2 J K,g2⟩
theorem fO{l:List Obj}:eI l=true↔1<=l.length/\l.length<=64/\∀i,i<l.length->bS (aM l i free) (l.length:Int)=true:=by
 unfold eI aJ;simp only[af,ah,List.all_eq_true,List.mem_range,and_assoc]
theorem uO{l:List Obj}(h:¬(1<=l.length/\l.length<=64/\∀i,i<l.length->bS (aM l i free) (l.length:Int)=true)):eI l=false:=by
 cases hr:eI l with
 |false=>rfl
 |true=>exact absurd (fO.1 hr) h
theorem wV{l:List Obj}{g:Int}(h1:g<=(l.length:Int)):(jM l g).length=l.length:=by
 unfold jM;simp only[List.length_append,List.length_take,List.length_replicate];omega
theorem OR{l:List Obj}:mb (l.length:Int)=jM l 0:=by unfold mb jM;simp
theorem SU{l:List Obj}{g:Int}(h:(l.length:Int)<=g):jM l g=l:=by
 unfold jM;rw[List.take_of_length_le (by omega),show l.length-g.toNat=0 by omega];simp
theorem QW{l:List Obj}{g:Int}(h0:0<=g)(h1:g<(l.length:Int)):eW (jM l g) g.toNat (aM l g.toNat free)=jM l (g+1):=by
 unfold eW jM aM;obtain⟨n,rfl⟩:=Int.eq_ofNat_of_zero_le h0;have hn:n<l.length:=by omega
 have e1:((n:Int)+1).toNat=n+1:=by omega
 have e2:((n:Int)).toNat=n:=by omega
 rw[e1,e2];apply List.ext_getElem?
 intro i;rw[List.getElem?_set];have hlt:(List.take n l++List.replicate (l.length-n) free).length=l.length:=by simp;omega
 have htl:(List.take n l).length=n:=by simp;omega
 have htl1:(List.take (n+1) l).length=n+1:=by simp;omega
 by_cases hi:n=i
 ·subst hi;rw[ar rfl,ar (by rw[hlt];exact hn),List.getElem?_append_left (by rw[htl1];omega),List.getElem?_take,ar (by omega),an,List.getElem?_eq_getElem hn];rfl
 ·rw[aq hi];by_cases hl:i<n
  ·rw[List.getElem?_append_left (by rw[htl];exact hl),List.getElem?_append_left (by rw[htl1];omega),List.getElem?_take,List.getElem?_take,ar hl,ar (by omega)]
  ·rw[List.getElem?_append_right (by rw[htl];omega),List.getElem?_append_right (by rw[htl1];omega),htl,htl1,List.getElem?_replicate,List.getElem?_replicate]
   by_cases hb:i<l.length
   ·rw[ar (by omega),ar (by omega)]
   ·rw[aq (by omega),aq (by omega)]
theorem XC{l:List Obj}{g:Int}(h0:0<=g)(h1:g<(l.length:Int))(x:Obj):fa (jM l g) g x=cT x (l.length:Int):=by
 have hh:cj (jM l g) g=0:=kc.2 (by rw[wV (by omega)];exact⟨h0,h1⟩)
 unfold fa aJ;rw[ar hh,wV (by omega)]
theorem Rq{l:List Obj}{g:Int}(h0:0<=g)(h1:g<(l.length:Int))(hx:cT (aM l g.toNat free) (l.length:Int)=0):cM (jM l g) g (aM l g.toNat free)=jM l (g+1):=by
 have hh:cj (jM l g) g=0:=kc.2 (by rw[wV (by omega)];exact⟨h0,h1⟩)
 unfold cM aJ;rw[ar ⟨hh,by rw[wV (by omega)];exact hx⟩]
 exact QW h0 h1
theorem sN(o:Obj)(n:Int):(cT o n=0/\bS o n=true)\/(cT o n=2/\bS o n=false):=by
 unfold cT;cases bS o n<;>simp
theorem ko(k:Key):(bq k=true/\bu k=k.oid/\0<=k.oid)\/(bq k=false/\bu k= -1):=by
 have h:bu k=if bq k then k.oid else -1:=rfl
 cases hn:bq k
 ·exact .inr ⟨rfl,by rw[h,hn];rfl⟩
 ·refine .inl ⟨rfl,by rw[h,hn];rfl,?_⟩
  unfold bq at hn;simp only[af]at hn;have:=hn.1;simp only[bc,eE,hn.2,if_true,af,ah]at this;omega
theorem Dq(l:List Obj)(k:Key)(hl:l.length<=9223372036854775807):((decide (0<=bu k)&&decide (bu k<bK (aJ l)))=true->bg IntKind.i64 (bK (aJ l)-1))/\
  ((decide (0<=bu k)&&decide (bu k<bK (aJ l)))=true->
    0<=lN (bu k) (bK (aJ l)-1)/\lN (bu k) (bK (aJ l)-1)< ↑(aJ l))/\
    ((decide (0<=bu k)&&decide (bu k<bK (aJ l)))=true->
      (lN (bu k) (bK (aJ l)-1)).toNat<aJ l)/\
      (decide (0<=bu k)&&decide (bu k<bK (aJ l))&&
        cy k (aM l (lN (bu k) (bK (aJ l)-1)).toNat free))=
       bm l k:=by
 unfold bK aJ
 have hm:0<=bu k->bu k<(l.length:Int)->lN (bu k) ((l.length:Int)-1)=bu k:=fun h1 h2=>by
  unfold lN;rw[aq (by omega)]
 simp only[af,ah];refine⟨fun h=>by simp only[bg,ck];omega,fun h=>by rw[hm h.1 h.2];exact h,fun h=>by rw[hm h.1 h.2];omega,?_⟩
 rcases ko k with⟨h1,h2,h3⟩|⟨h1,h2⟩
 ·by_cases hh:k.oid<(l.length:Int)
  ·rw[hm (by omega) (by omega),h2]
   have h0:cj l k.oid=0:=kc.2 ⟨h3,hh⟩;unfold bm;simp[h1,h0,h3,hh]
  ·have h0:¬cj l k.oid=0:=fun h=>hh (kc.1 h).2
   unfold bm;rw[h2];simp[h0,hh]
 ·unfold bm;simp[h1,h2]
theorem JI(l:List Obj)(k:Key):((decide (bK (aJ l)=0)|| !decide (bF k=0)||decide (0<=bu k)&& !bm l k)=true->void=aI l k)/\
  ((decide (bK (aJ l)=0)|| !decide (bF k=0)||decide (0<=bu k)&& !bm l k)=false->k=aI l k):=by
 have hc:(!decide (bF k=0))= !bc k:=by unfold bF;cases bc k<;>simp
 have hd:decide (0<=bu k)=bq k:=by
  rcases ko k with⟨h1,h2,h3⟩|⟨h1,h2⟩
  ·rw[h1,h2];simpa using h3
  ·rw[h1,h2];simp
 have he:decide (bK (aJ l)=0)=bN l:=by
  unfold bN bK;rw[decide_eq_decide];omega
 rw[hc,hd,he];unfold aI;exact⟨fun h=>by rw[h];rfl,fun h=>by rw[h];rfl⟩
theorem yr{l:List Obj}{k:Key}(h:bm l k=true):0<=bu k/\bu k<(l.length:Int)/\aG l k=aM l (bu k).toNat free:=by
 have h':=h;unfold bm at h;simp only[af,ah]at h;have hb:=kc.1 h.1.2;rcases ko k with⟨h1,h2,h3⟩|⟨h1,h2⟩
 ·rw[h2];exact⟨hb.1,hb.2,by unfold aG;rw[h',ar rfl]⟩
 ·rw[h1]at h;simp at h
theorem re{L M:List Obj}(h:L.length=M.length)(h2:∀j:Nat,j<L.length->aM L j free=aM M j free):L=M:=by
 apply List.ext_getElem h
 intro i h3 h4;have:=h2 i h3;unfold aM at this;simpa[an,h3,h4]using this
theorem Oz{L M:List Obj}{g:Int}(hg:pJ L M g)(hge:(aJ L:Int)<=g):(decide (g=bK (aJ M))&&decide (aK L=g))=lV L M:=by
 obtain⟨g0,g1,g2,g3⟩:=hg;have e:g=(L.length:Int):=by unfold aJ at *;omega
 subst e;unfold lV aK bK aJ;cases hd:decide (L=M)with
 |true=>
  have:=ak hd;subst this;simp
 |false=>
  have hne:=aj hd;simp only[decide_true,Bool.and_true,decide_eq_false_iff_not];intro hl;exact hne (re (by omega) fun j hj=>g3 j (by omega))
end Go.Sx
namespace Go.Proofs.YtmfbohanboiklaaGreat
open Go.Sx
theorem Lq:
 true=bN []:=by
 rfl
theorem Nd(L:List Sx.Obj):
 decide (bK (aJ L)=0)=bN L:=by
 unfold bN bK aJ;rw[decide_eq_decide];omega
theorem ph[Fen]:dq Tryz.prog 45 Ge:=
 Ph (fun _=>rfl) (bG (inl:=cg) (ann:=bj) aO Lq (by kernel_rfl)) (fun L _ _=>bG (inl:=cg) (ann:=bj) aO (Nd L) (by kernel_rfl))
theorem RK(i:Int):
 (bN []=true->1=cj [] i)/\
  (bN []=false->((!decide (i<0))=true->False)/\((!decide (i<0))=false->4=cj [] i)):=by
 exact⟨fun _=>rfl,fun h=>by simp[se]at h⟩
theorem T3(L:List Sx.Obj)(i:Int):
 (bN L=true->1=cj L i)/\
  (bN L=false->
   ((decide (i<0)||decide (bK (aJ L)<=i))=true->4=cj L i)/\
     ((decide (i<0)||decide (bK (aJ L)<=i))=false->0=cj L i)):=by
 refine⟨fun h=>?_,fun h=>?_⟩
 ·rw[AA.1 h];rfl
 ·rw[PI h];unfold bK aJ;refine⟨fun h1=>?_,fun h1=>?_⟩
  ·simp only[Bool.or_eq_true,ah]at h1;rw[ar h1]
  ·simp only[Bool.or_eq_false_iff,decide_eq_false_iff_not]at h1;rw[aq (by omega)]
theorem ya[Fen]:dq Tryz.prog 44 Z8:=
 xq (gX .i64) (fun _ _=>rfl) (fun x _=>bG (inl:=cg) (ann:=bj) (aH ph aO) (RK x) (by kernel_rfl)) (fun L x _ _ _=>bG (inl:=cg) (ann:=bj) (aH ph aO) (T3 L x) (by kernel_rfl)) fun _=>rfl
theorem Oo:
 (bN []=true->0=aK [])/\(bN []=false->False):=by
 exact⟨fun _=>rfl,fun h=>by simp[se]at h⟩
theorem Kr(L:List Sx.Obj):
 (bN L=true->0=aK L)/\(bN L=false->bK (aJ L)=aK L):=by
 exact⟨fun h=>by rw[AA.1 h];rfl,fun _=>rfl⟩
theorem bE[Fen]:dq Tryz.prog 29 Fy:=
 Ph (fun _=>rfl) (bG (inl:=cg) (ann:=bj) (aH ph aO) Oo (by kernel_rfl)) (fun L _ _=>bG (inl:=cg) (ann:=bj) (aH ph aO) (Kr L) (by kernel_rfl))
theorem S0(i:Int):
 ((!decide (cj [] i=0))=true->free=aS [] i/\cj [] i=cj [] i)/\
   ((!decide (cj [] i=0))=false->False):=by
 exact⟨fun _=>⟨rfl,rfl⟩,fun h=>by simp[pB]at h⟩
theorem R9(L:List Sx.Obj)(i:Int):
 ((!decide (cj L i=0))=true->free=aS L i/\cj L i=cj L i)/\
   ((!decide (cj L i=0))=false->
     (0<=i/\i< ↑(aJ L))/\i.toNat<aJ L/\i.toNat<aJ L/\aM L i.toNat free=aS L i/\0=cj L i):=by
 refine⟨fun h=>⟨?_,rfl⟩,fun h=>?_⟩
 ·unfold aS;rw[aq (by simpa using h)]
 ·have h:cj L i=0:=by simpa using h
  have hb:=kc.1 h;unfold aS aJ;rw[ar h,h];exact⟨hb,by omega,by omega,rfl,rfl⟩
theorem eT[Fen]:dq Tryz.prog 25 Ze:=
 xq (gX .i64) (fun _ _=>rfl) (fun x _=>bG (inl:=cg) (ann:=bj) (aH ya aO) (S0 x) (by kernel_rfl)) (fun L x _ _ _=>bG (inl:=cg) (ann:=bj) (aH ya aO) (R9 L x) (by kernel_rfl)) fun _=>rfl
theorem JP(k:Key):
 au (!bq k) (free=aG [] k/\false=bm [] k) (au (!decide (cj [] (cw k)=0)|| !cy k (aS [] (cw k))) (free=aG [] k/\false=bm [] k) (aS [] (cw k)=aG [] k/\true=bm [] k)):=by
 delta au
 exact zO [] k
theorem J9(L:List Sx.Obj)(k:Key):
 au (!bq k) (free=aG L k/\false=bm L k) (au (!decide (cj L (cw k)=0)|| !cy k (aS L (cw k))) (free=aG L k/\false=bm L k) (aS L (cw k)=aG L k/\true=bm L k)):=by
 delta au
 exact zO L k
theorem bT[Fen]:dq Tryz.prog 47 QI:=
 xq gI (fun _ _=>rfl) (fun x _=>bG (inl:=cg) (ann:=bj) (aH dB (aH eT (aH xC aO))) (JP x) (by kernel_rfl)) (fun L x _ _ _=>bG (inl:=cg) (ann:=bj) (aH dB (aH eT (aH xC aO))) (J9 L x) (by kernel_rfl)) fun _=>rfl
theorem WC(n:Int):
 au (decide (n<1)||decide (64<n)) (j4 n=false/\True) ((∃g,Bq n g/\Value.pointer none=Value.pointer none/\n=n/\0=g/\[]=mb g)/\∀(g:Int),Bq n g->au (decide (g<n)) (jU (aJ (mb g)) 8/\bg IntKind.i64 (g+1)/\∃g',Bq n g'/\(n-g').toNat<(n-g).toNat/\Value.pointer none=Value.pointer none/\n=n/\g+1=g'/\cE (mb g) free=mb g') (j4 n=true/\True/\mb g=mb n)):=by
 delta au
 refine⟨fun h=>⟨?_,trivial⟩,fun h=>⟨⟨0,?_,rfl,rfl,rfl,rfl⟩,fun g hg=>⟨fun hlt=>?_,fun hge=>?_⟩⟩⟩
 ·simp only[Bool.or_eq_true,ah]at h;unfold j4;rw[Bool.and_eq_false_iff,decide_eq_false_iff_not,decide_eq_false_iff_not];omega
 ·simp only[Bool.or_eq_false_iff,decide_eq_false_iff_not]at h;exact⟨by omega,by omega⟩
 ·simp only[Bool.or_eq_false_iff,decide_eq_false_iff_not]at h;obtain⟨g0,g1⟩:=hg;have hlt:=ak hlt;refine⟨?_,?_,g+1,⟨by omega,by omega⟩,by omega,rfl,rfl,rfl,Rj g0⟩
  ·unfold jU aJ mb;simp only[List.length_replicate,maxLen];omega
  ·simp only[bg,ck];omega
 ·simp only[Bool.or_eq_false_iff,decide_eq_false_iff_not]at h;obtain⟨g0,g1⟩:=hg;have hge:=aj hge;exact⟨rE.2 (by omega),trivial,by rw[show g=n by omega]⟩
theorem Ky[Fen](n:Int):aL Tryz.prog 14 [.it .i64 n] [] (aax n) (fun _ _=>False):=bG (inl:=cg) (ann:=(kb [(14,5,lpB [2,3,4,13] (fun g=> [(14,.it .i64 g)]) 0 tS eS mb (Bq n) n)])) aO (WC n) (by kernel_rfl)
theorem VG[Fen]:k7 Tryz.prog 14 UH:=by
 intro args res K KP h;unfold UH at h;split at h
 ·split at h
  ·rename_i n hn;refine aL.args (ff.rd (gX .i64) hn ff.nil) ?_;cases hb:j4 n with
   |false=>exact aL.pure rfl rfl ((Ky n).mono (fun v r hv=>OU hb hv) fun _ _ h=>h) (h.1 hb)
   |true=>
    refine aL.TE (F:=fun j=> .tp [.lp j 0,.ci .i64 0]) rfl ?_ (h.2 hb)
    refine aL.shut (Ky n) fun v r hv=>?_
    obtain⟨j,r',_,h1,h2,h3⟩:=G3 hb hv;rcases h1 with rfl|h1
    ·exact .inl ⟨j,h2,h3⟩
    ·exact .inr ⟨j,r',h1,j,h2,h3⟩
  ·exact h.elim
 ·exact h.elim
theorem SF(i:Int)(o:Sx.Obj):
 ((!decide (cj [] i=0))=true->cj [] i=fa [] i o)/\((!decide (cj [] i=0))=false->False):=by
 refine⟨fun _=>?_,fun h=>by simp[pB]at h⟩
 rw[Hi,pB]
theorem TJ[Fen](i:Int)(o:Sx.Obj):aL Tryz.prog 41 [jZ,.it .i64 i,.ob o] [] (qh (.it .i64 (fa [] i o))) (fun _ _=>False):=bG (inl:=cg) (ann:=bj) (aH ya (aH Bm aO)) (SF i o) (by kernel_rfl)
theorem QC(L:List Sx.Obj)(i:Int)(o:Sx.Obj):
 au (!decide (cj L i=0)) (cj L i=fa L i o/\L=cM L i o) (au (!decide (cT o (bK (aJ L))=0)) (cT o (bK (aJ L))=fa L i o/\L=cM L i o) ((0<=i/\i< ↑(aJ L))/\i.toNat<aJ L/\0=fa L i o/\eW L i.toNat o=cM L i o)):=by
 delta au
 refine⟨fun h=>?_,fun h=>⟨fun h2=>?_,fun h2=>?_⟩⟩
 ·obtain⟨a,b⟩:=Tr (o:=o) (show cj L i≠0 by simpa using h)
  rw[a,b];exact⟨rfl,rfl⟩
 ·obtain⟨a,b⟩:=Wj (o:=o) (show cj L i=0 by simpa using h) (show cT o (aJ L:Int)≠0 by unfold bK at h2;simpa using h2)
  rw[a,b];exact⟨rfl,rfl⟩
 ·have h:=(show cj L i=0 by simpa using h)
  have hb:=kc.1 h;obtain⟨a,b⟩:=tT (o:=o) h (show cT o (aJ L:Int)=0 by unfold bK at h2;simpa using h2)
  rw[a,b];exact⟨hb,by unfold aJ;omega,rfl,rfl⟩
theorem SY[Fen](L:List Sx.Obj)(i:Int)(o:Sx.Obj):aL Tryz.prog 41 [.lp 0 0,.it .i64 i,.ob o] [.blk tS (.ag [.sa 1]),.obs eS 2 L,.gen 1] (kSt (.it .i64 (fa L i o)) (cM L i o)) (fun _ _=>False):=bG (inl:=cg) (ann:=bj) (aH ya (aH Bm aO)) (QC L i o) (by kernel_rfl)
theorem T8(i:Int)(o:Sx.Obj):
 ((!decide (cj [] i=0))=true->cj [] i=fa [] i o)/\
   ((!decide (cj [] i=0))=false->
     ((!decide (cT o 0=0))=true->cT o 0=fa [] i o)/\((!decide (cT o 0=0))=false->False)):=by
 refine⟨fun _=>?_,fun h=>by simp[pB]at h⟩
 rw[Hi,pB]
theorem Q8[Fen](i:Int)(o:Sx.Obj):aL Tryz.prog 41 [.lp 0 0,.it .i64 i,.ob o] [.ro (.blk tS (.ag [.nl (.slice none 0 0)]))] (qh (.it .i64 (fa [] i o))) (fun _ _=>False):=bG (inl:=cg) (ann:=bj) (aH ya (aH Bm aO)) (T8 i o) (by kernel_rfl)
theorem dv[Fen]:k7 Tryz.prog 41 Uc:=by
 intro args res K KP h;unfold Uc at h;split at h
 ·split at h
  ·rename_i i hi;split at h
   ·rename_i o ho;refine aL.args (ff.ka (ff.rd (gX .i64) hi (ff.rd yC ho ff.nil))) ?_;split at h
    ·split at h
     ·exact aL.pure rfl rfl ((TJ i o).mono (fun _ _ h=>dI h) fun _ _ h=>h) h
     ·exact h.elim
    ·split at h
     ·rename_i hoff;have hoff:=ai.1 hoff;subst hoff;split at h
      ·rename_i hr;split at h
       ·rename_i hc;simp only[af,ai]at hc;obtain⟨rfl,rfl⟩:=hc;exact aay hr rfl rfl (fun _ _=>SY _ i o) h
       ·exact h.elim
      ·rename_i hr;split at h
       ·rename_i hc;simp only[af,ai]at hc;obtain⟨rfl,hz⟩:=hc;have:=yp hz;subst this;refine aL.M7 (r0:= .blk tS (.ag [.nl (.slice none 0 0)])) (by unfold cP;rw[hr]) (by simp) (fun κ=>rfl) rfl rfl ((Q8 i o).mono (fun _ _ h=>dI h) fun _ _ h=>h) h
       ·exact h.elim
      ·exact h.elim
     ·exact h.elim
    ·exact h.elim
   ·exact h.elim
  ·exact h.elim
 ·exact h.elim
theorem OX(l:List Sx.Obj)(hl:l.length<=9223372036854775807):
 au (decide (bK (aJ l)<1)||decide (64<bK (aJ l))) (false=eI l) ((∃g,rr l g/\false=false/\0=g/\l=l)/\∀(g:Int),rr l g->au (decide (g<bK (aJ l))) ((0<=g/\g< ↑(aJ l))/\g.toNat<aJ l/\au (!decide (cT (aM l g.toNat free) (bK (aJ l))=0)) (false=eI l) (bg IntKind.i64 (g+1)/\∃g',rr l g'/\(bK (aJ l)-g').toNat<(bK (aJ l)-g).toNat/\false=false/\g+1=g'/\l=l)) (true=eI l)):=by
 delta au
 refine⟨fun h=>?_,fun h=>⟨⟨0,⟨by omega,by omega,fun j hj=>by omega⟩,rfl,rfl,rfl⟩,fun g hg=>⟨fun hlt=>?_,fun hge=>?_⟩⟩⟩
 ·simp only[Bool.or_eq_true,ah]at h;simp only[gG]at h;exact(uO fun hh=>by have h1:=hh.1;have h2:=hh.2.1;omega).symm
 ·obtain⟨g0,g1,g2⟩:=hg;have hlt:=ak hlt;unfold bK at *;refine⟨⟨g0,hlt⟩,by omega,fun hb=>(uO fun hh=>?_).symm,fun hb=>⟨?_,g+1,⟨by omega,by omega,fun j hj=>?_⟩,by omega,rfl,rfl,rfl⟩⟩
  ·have:=hh.2.2 g.toNat (by unfold aJ at hlt;omega)
   unfold cT aJ at hb;rw[this]at hb;simp at hb
  ·simp only[bg,ck];unfold aJ at *;omega
  ·by_cases e:(j:Int)<g
   ·exact g2 j e
   ·have:j=g.toNat:=by omega
    subst this;rcases sN (aM l g.toNat free) (aJ l:Int)with⟨h1,h2⟩|⟨h1,h2⟩
    ·exact h2
    ·rw[h1]at hb;simp at hb
 ·obtain⟨g0,g1,g2⟩:=hg;have hge:=aj hge;have hle:=lO l;simp only[Bool.or_eq_false_iff,decide_eq_false_iff_not]at h;simp only[gG]at h hge;exact(fO.2 ⟨by omega,by omega,fun i hi=>g2 i (by omega)⟩).symm
theorem P3[Fen]:dq Tryz.prog 19 Sj:=Vd (fun _=>rfl) fun l _ hl=>bG (inl:=cg) (ann:=(kb [(19,4,X2 [0,2] (fun g=> [(3,.it .i64 g)]) (rr l) (bK (aJ l)))])) (aH PJ aO) (OX l hl) (by kernel_rfl)
theorem FW(l:List Sx.Obj)(k:Key)(hl:l.length<=9223372036854775807):
 ((decide (0<=bu k)&&decide (bu k<bK (aJ l)))=true->bg IntKind.i64 (bK (aJ l)-1))/\((decide (0<=bu k)&&decide (bu k<bK (aJ l)))=true->0<=lN (bu k) (bK (aJ l)-1)/\lN (bu k) (bK (aJ l)-1)< ↑(aJ l))/\((decide (0<=bu k)&&decide (bu k<bK (aJ l)))=true->(lN (bu k) (bK (aJ l)-1)).toNat<aJ l)/\(decide (0<=bu k)&&decide (bu k<bK (aJ l))&&cy k (aM l (lN (bu k) (bK (aJ l)-1)).toNat free))=bm l k:=by
 exact Dq l k hl
theorem FX[Fen]:dq Tryz.prog 24 Jn:=GZ gI (fun _ _=>rfl) (fun l k _ hl _=>bG (inl:=cg) (ann:=bj) (aH oF (aH Fx aO)) (FW l k hl) (by kernel_rfl)) fun _=>rfl
theorem ZU(l:List Sx.Obj)(hl:l.length<=9223372036854775807):
 true=true/\(j4 (bK (aJ l))=false->eI l=false/\True)/\(j4 (bK (aJ l))=true->(∃g,rr l g/\Value.pointer none=Value.pointer none/\bK (aJ l)=bK (aJ l)/\0=g/\l=l/\mb (bK (aJ l))=jM l g)/\∀(g:Int),rr l g->au (decide (g<bK (aJ l))) ((0<=g/\g< ↑(aJ l))/\g.toNat<aJ l/\true=true/\au (!decide (fa (jM l g) g (aM l g.toNat free)=0)) (eI l=false/\fa (jM l g) g (aM l g.toNat free)=2) (bg IntKind.i64 (g+1)/\∃g',rr l g'/\(bK (aJ l)-g').toNat<(bK (aJ l)-g).toNat/\Value.pointer none=Value.pointer none/\bK (aJ l)=bK (aJ l)/\g+1=g'/\l=l/\cM (jM l g) g (aM l g.toNat free)=jM l g')) (eI l=true/\True/\jM l g=l)):=by
 delta au
 refine⟨rfl,fun h=>⟨uO fun hh=>?_,trivial⟩,fun h=>⟨⟨0,⟨by omega,by omega,fun j hj=>by omega⟩,rfl,rfl,rfl,rfl,OR⟩,fun g hg=>⟨fun hlt=>?_,fun hge=>?_⟩⟩⟩
 ·have:j4 (bK (aJ l))=true:=rE.2 (by unfold bK aJ;omega)
  rw[this]at h;simp at h
 ·obtain⟨g0,g1,g2⟩:=hg;have hlt:=ak hlt;have h:=rE.1 h;have hle:=lO l;simp only[gG]at *;rw[XC g0 hlt];refine⟨⟨g0,hlt⟩,by omega,trivial,fun hb=>⟨uO fun hh=>?_,?_⟩,fun hb=>⟨?_,g+1,⟨by omega,by omega,fun j hj=>?_⟩,by omega,trivial,trivial,rfl,trivial,Rq g0 hlt (by simpa using hb)⟩⟩
  ·have:=hh.2.2 g.toNat (by omega)
   unfold cT at hb;rw[this]at hb;simp at hb
  ·rcases sN (aM l g.toNat free) (l.length:Int)with⟨h1,h2⟩|⟨h1,h2⟩
   ·rw[h1]at hb;simp at hb
   ·exact h1
  ·simp only[bg,ck];omega
  ·by_cases e:(j:Int)<g
   ·exact g2 j e
   ·have:j=g.toNat:=by omega
    subst this;rcases sN (aM l g.toNat free) (l.length:Int)with⟨h1,h2⟩|⟨h1,h2⟩
    ·exact h2
    ·rw[h1]at hb;simp at hb
 ·obtain⟨g0,g1,g2⟩:=hg;have hge:=aj hge;have h:=rE.1 h;have hle:=lO l;simp only[gG]at *;exact⟨fO.2 ⟨by omega,by omega,fun i hi=>g2 i (by omega)⟩,trivial,SU (by omega)⟩
theorem UE[Fen](l:List Sx.Obj)(own:Option Nat):aL Tryz.prog 20 [.sa 0] [.ro (.arr own 163 (.ob l))] (kOf l) (fun _ _=>False):=
 aL.YV (aL.C5 (k:=0) rfl fun _ hl=>(bV (inl:=cg) (ann:=(kb [(20,5,Vm [0,2,3,4,5,18,19] (fun g=> [(20,.it .i64 g)]) 1 (fun g=> .store tS eS (jM l g)) (rr l) (bK (aJ l)))])) aO (aV VG (aV dv aU)) (ZU l hl) (by kernel_rfl):aL Tryz.prog 20 [.sa 0] [.ro (.arr none 163 (.ob l))] (kOf l) (fun _ _=>False)))
theorem UG[Fen]:k7 Tryz.prog 20 Wz:=by
 intro args res K KP h;unfold Wz at h;split at h
 ·split at h
  ·split at h
   ·rename_i hr;split at h
    ·rename_i he;have he:=ai.1 he;subst he;split at h
     ·rename_i l;cases hb:eI l with
      |false=>exact aL.Zi hr rfl rfl ((UE l _).mono (fun v r hv=>OU hb (GO hv).1) fun _ _ h=>h) (h.1 hb)
      |true=>
       refine aL.Lc (F:=fun j=> .tp [.lp j 0,.ci .i64 0]) hr rfl ?_ (h.2 hb)
       refine aL.shut (UE l _) fun v r hv=>?_
       obtain⟨hv,h0⟩:=GO hv;obtain⟨j,r',hs,h1,h2,h3⟩:=G3 hb hv
       have hj:1<=j:=by
        rcases Nat.eq_zero_or_pos j with rfl|hj
        ·rw[h0]at hs;simp at hs
        ·exact hj
       rcases h1 with rfl|h1
       ·exact .inl ⟨j,hj,h2,h3⟩
       ·exact .inr ⟨j,r',h1,j,hj,h2,h3⟩
     ·exact h.elim
    ·exact h.elim
   ·exact h.elim
  ·exact h.elim
 ·exact h.elim
end Go.Proofs.YtmfbohanboiklaaGreat
namespace Go.Sx
def j7(r b:Int):Bool:=decide ((r.tdiv b).tmod 2=1)
def tr(r m g:Int):Int:=(if 2<=g/\(j7 r 1||j7 m 1)=true then 1 else 0)+(if 4<=g/\(j7 r 2||j7 m 2)=true then 2 else 0)+(if 8<=g/\(j7 r 4||j7 m 4)=true then 4 else 0)
def iZ(r m:Int):Int:=tr r m 8
def dc(k:Key)(r:Int):Key:= {k with rights:=r}
def ti(k:Key):Key:=if k.kind=2 then dc k (iZ k.rights 3)else if k.kind=3 then dc k 1 else if k.kind=1\/k.kind=8 then k else void
def fi(k:Key):Key:=if bc k then ti k else void
def Oc:Ct:=QN rK fun k=> .tp [.key (fi k),.it .i64 (bF k)]
def br(L:List Obj)(k:Key)(kind:Int)(c:Bool):Int:=if aJ L=0 then 1 else if(!bm L k|| !decide (k.kind=kind))=true then 190 else if(c&& !decide (k.rights.tmod 4=0))=true then 191 else 0
def gg(k:Key):Bool:=decide ((k.rights.tdiv 2).tmod 2=1)
def jP(L:List Obj)(o:Obj)(k:Key)(i:Int):Key:=if gg k then ti (aI L (o.slots.at i.toNat))else aI L (o.slots.at i.toNat)
def eU(L:List Obj)(k:Key)(i:Int):Key:=jP L (aM L k.oid.toNat free) k i
def nZ(k:Key)(i:Int):Prop:=0<=i/\i<16/\bc k=true
def mS(i:Int):Bool:=decide (0<=i)&&decide (i<16)
def dC(L:List Obj)(k:Key)(i:Int):Int:=if br L k 2 false=0 then(if mS i then 0 else 4)else br L k 2 false
def bd(L:List Obj)(k:Key)(i:Int):Key:=if dC L k i=0 then eU L k i else void
def cJ(L:List Obj)(v:Key):Bool:=bc v&&decide (bu v<(aJ L:Int))
def b8(L:List Obj)(k:Key)(i:Int)(v:Key):Int:=if br L k 2 true=0 then(if mS i then(if cJ L v then 0 else 2)else 4)else br L k 2 true
def fl(L:List Obj)(k:Key)(i:Int)(v:Key):Key:=if b8 L k i v=0 then eU L k i else void
def gw(o:Obj)(s:cC):Obj:= {o with slots:=s}
def vx(L:List Obj)(k:Key)(s:cC):List Obj:=eW L k.oid.toNat (gw (aM L k.oid.toNat free) s)
def eJ(L:List Obj)(k:Key)(i:Int)(v:Key):List Obj:=if b8 L k i v=0 then vx L k ((aM L k.oid.toNat free).slots.put i.toNat (aI L v))else L
def gV(L:List Obj)(k:Key):List Obj:=if br L k 2 true=0 then vx L k gW else L
def dh(L:List Obj)(t f:Key):Int:=if br L t 2 true=0 then br L f 2 false else br L t 2 true
def gm(L:List Obj)(t f:Key)(g:Int):cC:=(List.range g.toNat).foldl (fun s (j:Nat)=>s.put j (eU L f (j:Int))) (aM L t.oid.toNat free).slots
def gu(L:List Obj)(t f:Key):List Obj:=if dh L t f=0 then vx L t (gm L t f 16)else L
def aP(L:List Obj):Prop:=eI L=true
def lE(g:Int):Prop:=0<=g/\g<=16
def kA:Arg Key:=CN rK V.key
def iA:Arg Int:=CN (rI .i64) (V.it .i64)
def bA:Arg Bool:=CN toBool V.bo
def oA:Arg Obj:=CN rO V.ob
def sA:Arg (Option (List Obj)):=VI tS eS
def ye(o:Option (List Obj)):List Obj:=match o with
 |none=> []
 |some L=>L
def nB:ky (Obj×Option (List Obj)×Key×Unit):=bM oA (bM sA (bM kA jx))
def W0:Ct:=EU (bM (XX nB) (bM iA jx)) (fun x=>some (nZ x.1.2.2.1 x.2.1)) fun x=> .key (jP (ye x.1.2.1) x.1.1 x.1.2.2.1 x.2.1)
def VQ:Ct:=EU (bM sA (bM kA (bM iA jx))) (fun _=>none) fun x=> .tp [.key (bd (ye x.1) x.2.1 x.2.2.1),.it .i64 (dC (ye x.1) x.2.1 x.2.2.1)]
theorem LR{r m g:Int}:0<=tr r m g/\tr r m g<=7:=by
 unfold tr;repeat' split
 all_goals omega
theorem Mo{r:Int}(h0:0<=r)(h1:r<=7):bw .or .i64 r 3=iZ r 3:=by
 have:r=0\/r=1\/r=2\/r=3\/r=4\/r=5\/r=6\/r=7:=by omega
 rcases this with rfl|rfl|rfl|rfl|rfl|rfl|rfl|rfl<;>decide
theorem Ez{r:Int}(h0:0<=r)(h1:r<=1):bw .or .i64 r 1=1:=by
 have:r=0\/r=1:=by omega
 rcases this with rfl|rfl<;>decide
theorem gL{k:Key}(h:bc k=true):0<=k.rights/\k.rights<=ea k.kind:=by
 simp only[bc,af,ah]at h;omega
theorem pO:bc void=true:=by decide
theorem lk(L:List Obj)(k:Key):bc (aI L k)=true:=by
 unfold aI;split
 ·exact pO
 ·rename_i h;simp only[Bool.or_eq_true,not_or,Bool.not_eq_true,Bool.not_eq_false']at h;exact h.1.2
theorem DV(L:List Obj)(k:Key):fi (aI L k)=ti (aI L k):=by unfold fi;rw[lk,ar rfl]
theorem YD{r:Int}(h0:0<=r)(h1:r<=7):decide (bw .and .i64 r 2=0)= !decide ((r.tdiv 2).tmod 2=1):=by
 have:r=0\/r=1\/r=2\/r=3\/r=4\/r=5\/r=6\/r=7:=by omega
 rcases this with rfl|rfl|rfl|rfl|rfl|rfl|rfl|rfl<;>decide
theorem SZ{r:Int}(h0:0<=r)(h1:r<=7):decide (bw .and .i64 r 3=0)=decide (r.tmod 4=0):=by
 have:r=0\/r=1\/r=2\/r=3\/r=4\/r=5\/r=6\/r=7:=by omega
 rcases this with rfl|rfl|rfl|rfl|rfl|rfl|rfl|rfl<;>decide
theorem RO(n:Int):ea n<=7:=by unfold ea;split<;>(try split)<;>omega
theorem qi{k:Key}(h:bc k=true):0<=k.rights/\k.rights<=7:=by
 have:=gL h;have:=RO k.kind;omega
theorem fC{L:List Obj}{k:Key}(h:bm L k=true):bc k=true/\0<=k.oid/\k.oid<(L.length:Int)/\aG L k=aM L k.oid.toNat free/\(aM L k.oid.toNat free).kind=fX k:=by
 have h':=h;unfold bm at h;simp only[af,ah]at h;obtain⟨⟨h1,h2⟩,h3⟩:=h;have hb:=kc.1 h2;have hn:0<=bu k:=(yr h').1;simp only[cy,af,Bool.or_eq_true,ah]at h3;refine⟨h3.1,hb.1,hb.2,by unfold aG;rw[h',ar rfl],?_⟩
 rcases h3.2 with h|h
 ·omega
 ·exact h.1.1
theorem Hv{L:List Obj}{o:Obj}{k:Key}{i:Int}(hq:nZ k i):(0<=i/\i< ↑16)/\
  ((!decide (bw BinOp.and IntKind.i64 k.rights 2=0))=true->fi (aI L (o.slots.at i.toNat))=jP L o k i)/\
    ((!decide (bw BinOp.and IntKind.i64 k.rights 2=0))=false->aI L (o.slots.at i.toNat)=jP L o k i):=by
 obtain⟨h0,h1,h2⟩:=hq;have hr:=qi h2;rw[YD hr.1 hr.2,DV];unfold jP gg;refine⟨⟨h0,by omega⟩,fun h=>?_,fun h=>?_⟩
 ·rw[ar (by simpa using h)]
 ·rw[aq (by simpa using h)]
theorem lQ{L:List Obj}{k:Key}{d:Int}{c:Bool}(h:br L k d c=0):bm L k=true/\k.kind=d/\(c=true->k.rights.tmod 4=0):=by
 unfold br at h;split at h
 ·omega
 ·split at h
  ·omega
  ·rename_i h2;simp only[Bool.or_eq_true,Bool.not_eq_true',decide_eq_false_iff_not,not_or,Bool.not_eq_false,Decidable.not_not]at h2;split at h
   ·omega
   ·rename_i h3;refine⟨h2.1,h2.2,fun hc=>?_⟩
    simpa[hc]using h3
theorem mT:mZ kA:=rL gI (fun _=>rfl) fun v x h=>ZM h
theorem Ud:mZ oA:=rL yC (fun _=>rfl) fun v x h=>by cases v<;>simp[rO]at h;rfl
theorem PF:mZ bA:=rL Lp (fun _=>rfl) fun v x h=>by cases v<;>simp[toBool]at h<;>rfl
theorem fk:mZ iA:=rL (gX .i64) (fun _=>rfl) fun v x h=>by cases v<;>simp[rI,toInt]at h<;>rfl
theorem sH:mZ sA:=BQ _ _
theorem ZN:iF nB:=aZ Ud (aZ sH (aZ mT dg))
def z6(x:V)(M:List Obj)(v:V)(r:List aQ):Prop:=
 match aN r 0 with
 | .store t e L=>if t==tS&&e==eS then qh x v r/\L=M else False
 |_=>False
theorem HO{x:V}{M:List Obj}{v:V}{r:List aQ}(h:z6 x M v r):uZ x v r/\aN r 0= .store tS eS M:=by
 unfold z6 at h;split at h
 ·rename_i hr;split at h
  ·rename_i hc;simp only[af,ai]at hc;obtain⟨rfl,rfl⟩:=hc;obtain⟨h1,rfl⟩:=h;exact⟨dI h1,hr⟩
  ·exact h.elim
 ·exact h.elim
def Ix{α:Type}(B:List V->Option α)(Q:List Obj->α->Prop)(F:List Obj->α->V)(M:List Obj->α->List Obj):kr:=fun args res K=>
 match args with
 |a::l=>match B l with
  |some x=>match a with
   | .nl v=>match v with
     | .pointer none=>K (F [] x) res
     |_=>False
   | .lp k off=>if off==0 then match aN res k with
     | .store t e L=>if t==tS&&e==eS then Q L x/\K (F L x) (bQ res k (.store tS eS (M L x)))else False
     | .blk t c=>if t==tS&&isZ c then K (F [] x) res else False
     |_=>False
     else False
   |_=>False
  |none=>False
 |_=>False
def zst:V:= .ag [.nl (.slice none 0 0)]
theorem na[Fen]{P:Program}{f:Nat}{α:Type}{B:List V->Option α}{m:α->List V}{Q:List Obj->α->Prop}{F:List Obj->α->V}{M:List Obj->α->List Obj}(hB:∀l x,B l=some x->ff l (m x))(hid:∀x,lr (m x)=true)(hF:∀L x,jN (F L x)=true)
  (h0:∀x,aL P f (jZ::m x) [] (qh (F [] x)) (fun _ _=>False)) (hz:∀x,aL P f (.lp 0 0::m x) [.ro (.blk tS zst)] (qh (F [] x)) (fun _ _=>False))
  (h1:∀L x,Q L x->(∀o∈L,o.wf)->L.length<=9223372036854775807->aL P f (.lp 0 0::m x) [.store tS eS L] (z6 (F L x) (M L x)) (fun _ _=>False)):k7 P f (Ix B Q F M):=by
 intro args res K KP h;unfold Ix at h;split at h
 case h_2=>exact h.elim
 split at h
 case h_2=>exact h.elim
 rename_i x hx;refine aL.args (ff.ka (hB _ _ hx)) ?_;split at h
 ·split at h
  ·exact aL.pure (by simp only[lr,jN,Bool.true_and];exact hid x) (hF _ _) ((h0 x).mono (fun _ _ h=>dI h) fun _ _ h=>h) h
  ·exact h.elim
 ·split at h
  ·rename_i hoff;have hoff:=ai.1 hoff;subst hoff;split at h
   ·rename_i hr;split at h
    ·rename_i hc;simp only[af,ai]at hc;obtain⟨rfl,rfl⟩:=hc;refine aL.BA hr (hid x) (hF _ _) (aL.fact (k:=0) rfl fun w1 w2=>(h1 _ x h.1 w1 w2).mono (fun v r hv=>HO hv |> fun⟨a,b⟩=>⟨fun J K=>a J K,b⟩) fun _ _ h=>h) h.2
    ·exact h.elim
   ·rename_i hr;split at h
    ·rename_i hc;simp only[af,ai]at hc;obtain⟨rfl,hz'⟩:=hc;have:=yp hz';subst this;exact aL.M7 (r0:= .blk tS zst) (by unfold cP;rw[hr];rfl) (by simp) (fun κ=>rfl) (hid x) (hF _ _) ((hz x).mono (fun _ _ h=>dI h) fun _ _ h=>h) h
    ·exact h.elim
   ·exact h.elim
  ·exact h.elim
 ·exact h.elim
def rdK(l:List V):Option Key:=match l with
 | [a]=>rK a
 |_=>none
def RZ(l:List V):Option (Key×Key):=match l with
 | [a,b]=>match rK a with
   |some k=>match rK b with
    |some k'=>some (k,k')
    |none=>none
   |none=>none
 |_=>none
def Kt(l:List V):Option (Key×Int×Key):=match l with
 | [a,b,c]=>match rK a with
   |some k=>match rI .i64 b with
    |some i=>match rK c with
     |some k'=>some (k,i,k')
     |none=>none
    |none=>none
   |none=>none
 |_=>none
theorem OA:∀l x,rdK l=some x->ff l [.key x]:=fun l x h=>by
 unfold rdK at h;split at h
 ·exact ff.rd gI h ff.nil
 ·simp at h
theorem Ho:∀l x,RZ l=some x->ff l [.key x.1,.key x.2]:=fun l x h=>by
 unfold RZ at h;split at h
 ·split at h
  ·rename_i h1;split at h<;>simp only[aa,reduceCtorEq]at h
   rename_i h2;subst h;exact ff.rd gI h1 (ff.rd gI h2 ff.nil)
  ·simp at h
 ·simp at h
theorem Pb:∀l x,Kt l=some x->ff l [.key x.1,.it .i64 x.2.1,.key x.2.2]:=fun l x h=>by
 unfold Kt at h;split at h
 ·split at h
  ·rename_i h1;split at h
   ·rename_i h2;split at h<;>simp only[aa,reduceCtorEq]at h
    rename_i h3;subst h;exact ff.rd gI h1 (ff.rd (gX .i64) h2 (ff.rd gI h3 ff.nil))
   ·simp at h
  ·simp at h
 ·simp at h
def tK:Nat:=38
def Bw(g:Int):Nat:=(16-g).toNat
def Xy:kr:=Ix Kt (fun L _=>aP L) (fun L x=> .tp [.key (fl L x.1 x.2.1 x.2.2),.it .i64 (b8 L x.1 x.2.1 x.2.2)]) fun L x=>eJ L x.1 x.2.1 x.2.2
def V1:kr:=Ix rdK (fun L _=>aP L) (fun L x=> .it .i64 (br L x 2 true)) fun L x=>gV L x
def Wx:kr:=Ix RZ (fun L _=>aP L) (fun L x=> .it .i64 (dh L x.1 x.2)) fun L x=>gu L x.1 x.2
theorem L9{L:List Obj}{k:Key}{d:Int}{c:Bool}(h:(!decide (0<aK L))=true):br L k d c=1:=by
 unfold br;unfold aK at h;rw[ar (by simp at h;omega)]
theorem JN{L:List Obj}{k:Key}{d:Int}{c:Bool}(h:(!decide (0<aK L))=false)(h2:(!(bm L k&&decide (k.kind=d)))=true):br L k d c=190:=by
 unfold br;unfold aK at h;rw[aq (by simp at h;omega),ar (by simpa using h2)]
theorem mO{L:List Obj}{k:Key}{d:Int}(h2:(!(bm L k&&decide (k.kind=d)))=false):bm L k=true/\k.kind=d:=by simpa using h2
theorem XI{L:List Obj}{k:Key}{d:Int}(h:(!decide (0<aK L))=false)(h2:(!(bm L k&&decide (k.kind=d)))=false)(h3:(!decide (bw BinOp.and IntKind.i64 k.rights 3=0))=true):br L k d true=191:=by
 have hr:=qi (fC (mO h2).1).1;rw[SZ hr.1 hr.2]at h3;unfold br;unfold aK at h;rw[aq (by simp at h;omega),aq (by simpa using h2),ar (by simpa using h3)]
theorem IH{L:List Obj}{k:Key}{d:Int}(h:(!decide (0<aK L))=false)(h2:(!(bm L k&&decide (k.kind=d)))=false)(h3:(!decide (bw BinOp.and IntKind.i64 k.rights 3=0))=false):br L k d true=0:=by
 have hr:=qi (fC (mO h2).1).1;rw[SZ hr.1 hr.2]at h3;unfold br;unfold aK at h;rw[aq (by simp at h;omega),aq (by simpa using h2),aq (by simpa using h3)]
theorem Hy{L:List Obj}{k:Key}{d:Int}(h:(!decide (0<aK L))=false)(h2:(!(bm L k&&decide (k.kind=d)))=false):br L k d false=0:=by
 unfold br;unfold aK at h;rw[aq (by simp at h;omega),aq (by simpa using h2),aq (by simp)]
def dr(n:Int)(k:Key):Prop:=bc k=true/\bu k<n
theorem Mx{n:Int}{k:Key}:iT 1 n k=true↔dr n k:=by simp[iT,dr]
theorem Po(r:Int):0<=iZ r 3/\iZ r 3<=7:=LR
theorem N3{n:Int}(hn:0<=n){k:Key}(h:dr n k):dr n (ti k):=by
 obtain⟨h1,h2⟩:=h;have hv:dr n void:=⟨pO,by have:=mC.2;omega⟩
 unfold ti;split
 ·rename_i e;have hw:=Po k.rights
  have h1':bc (dc k (iZ k.rights 3))=true:=by
   simp only[bc,dc,e,af,ah]at h1⊢;have:ea 2=7:=rfl;grind
  refine⟨h1',?_⟩;unfold bu at h2⊢;rw[h1'];rw[h1]at h2;exact h2
 ·split
  ·rename_i e
   have h1':bc (dc k 1)=true:=by
    simp only[bc,dc,e,af,ah]at h1⊢;have:ea 3=1:=rfl;grind
   refine⟨h1',?_⟩;unfold bu at h2⊢;rw[h1'];rw[h1]at h2;exact h2
  ·split
   ·exact⟨h1,h2⟩
   ·exact hv
theorem oB{L:List Obj}(hL:0<L.length)(k:Key):dr (L.length:Int) (aI L k):=by
 have hv:dr (L.length:Int) void:=⟨pO,by have:=mC.2;omega⟩
 unfold aI;split
 ·exact hv
 ·rename_i h;simp only[Bool.or_eq_true,not_or,Bool.not_eq_true,Bool.not_eq_false',Bool.and_eq_false_imp]at h;refine⟨h.1.2,?_⟩;rcases ko k with⟨a,b,c⟩|⟨a,b⟩
  ·rw[b];exact(fC (h.2 a)).2.2.1
  ·omega
theorem SO{L:List Obj}(hL:0<L.length)(k:Key)(i:Int):dr (L.length:Int) (eU L k i):=by
 unfold eU jP;split
 ·exact N3 (by omega) (oB hL _)
 ·exact oB hL _
theorem y9{o:Obj}{n:Int}{s:cC}(h:bS o n=true)(hk:o.kind=1)(hs:∀i,i<16->dr n (s.at i)):bS (gw o s) n=true:=by
 rw[dU]at h⊢;simp only[gw];obtain⟨a1,a2,a3,a4,a5,a6,a7,a8,a9,a10,a11⟩:=h;exact⟨a1,a2,a3,a4,a5,a6,a7,a8,a9,fun i hi=>by rw[hk];exact Mx.2 (hs i hi),fun i hi=> .inl (.inl hk)⟩
theorem AY{L:List Obj}{k:Key}(h:bm L k=true)(h2:k.kind=2):(aM L k.oid.toNat free).kind=1:=by
 rw[(fC h).2.2.2.2];unfold fX;rw[aq (by have:=(yr h).1;omega),aq (by omega)]
theorem yH{L:List Obj}{k:Key}(hL:aP L)(h:bm L k=true)(h2:k.kind=2):∀i,i<16->dr (L.length:Int) ((aM L k.oid.toNat free).slots.at i):=fun i hi=>by
 obtain⟨_,b2,b3,_⟩:=fC h;have:=(fO.1 hL).2.2 k.oid.toNat (by omega)
 have:=(dU.1 this).2.2.2.2.2.2.2.2.2.1 i hi;rw[AY h h2]at this;exact Mx.1 this
theorem oE{L:List Obj}{k:Key}{s:cC}(hL:aP L)(h:bm L k=true)(h2:k.kind=2)(hs:∀i,i<16->dr (L.length:Int) (s.at i)):cM L k.oid (gw (aG L k) s)=vx L k s/\aP (vx L k s):=by
 obtain⟨b1,b2,b3,b4,_⟩:=fC h;have hr:=fO.1 hL;have ho:=y9 (hr.2.2 k.oid.toNat (by omega)) (AY h h2) hs
 refine⟨?_,?_⟩
 ·rw[b4];exact(tT (kc.2 ⟨b2,b3⟩) (rz ho).symm).2
 ·refine fO.2 ?_;unfold vx;have hl:(eW L k.oid.toNat (gw (aM L k.oid.toNat free) s)).length=L.length:=by simp[eW]
  rw[hl];refine⟨hr.1,hr.2.1,fun i hi=>?_⟩
  by_cases e:i=k.oid.toNat
  ·subst e;rw[show aM (eW L k.oid.toNat (gw (aM L k.oid.toNat free) s)) k.oid.toNat free=gw (aM L k.oid.toNat free) s by simp[aM,eW,an,hi]]
   exact ho
  ·rw[show aM (eW L k.oid.toNat (gw (aM L k.oid.toNat free) s)) i free=aM L i free by simp[aM,eW,an,List.getElem?_set,Ne.symm e]]
   exact hr.2.2 i hi
theorem C2{L:List Obj}{k:Key}{i:Int}{v:Key}(hL:aP L)(h:bm L k=true)(h2:k.kind=2)(h0:0<=i)(h1:i<16):∀j,j<16->dr (L.length:Int) (((aM L k.oid.toNat free).slots.put i.toNat (aI L v)).at j):=fun j hj=>by
 rw[cC.fP _ _ _ _ (by omega)]
 split
 ·exact oB (fO.1 hL).1 v
 ·exact yH hL h h2 j hj
theorem G0{n:Int}(hn:0<=n):∀j,j<16->dr n (gW.at j):=fun j hj=>by
 rw[G5.1 rfl j hj];exact⟨pO,by have:=mC.2;omega⟩
theorem tz(L:List Obj)(v:Key):(decide (bF v=0)&&(!bq v||decide (cw v<aK L)))=cJ L v:=by
 unfold cJ bF cw aK;rcases ko v with⟨a,b,c⟩|⟨a,b⟩
 ·rw[a,b];cases bc v<;>simp
 ·rw[a,b];have:(-1:Int)<(aJ L:Int):=by omega
  cases bc v<;>simp[this]
theorem zV{L:List Obj}{t f:Key}{g:Int}(h0:0<=g):gm L t f (g+1)=(gm L t f g).put g.toNat (eU L f g):=by
 unfold gm;rw[show(g+1).toNat=g.toNat+1 by omega,List.range_succ,List.foldl_append]
 simp only[List.foldl_cons,List.foldl_nil];rw[show((g.toNat:Nat):Int)=g by omega]
theorem KT{L:List Obj}{t f:Key}(h:aG L t=aM L t.oid.toNat free):aG L t=gw (aG L t) (gm L t f 0):=by
 unfold gm gw;simp[h]
theorem NH{L:List Obj}{t f:Key}{g:Int}(h0:0<=g)(h:aG L f=aM L f.oid.toNat free)(o:Obj)(s:cC):({kind:=(gw o (gm L t f g)).kind,count:=(gw o (gm L t f g)).count,calls:=(gw o (gm L t f g)).calls,slots:=(gw o (gm L t f g)).slots.put g.toNat (jP L (aG L f) f g),bytes:=(gw o (gm L t f g)).bytes}:Obj)=gw o (gm L t f (g+1)):=by
 rw[zV h0];unfold eU;rw[h];rfl
theorem xK{L:List Obj}{t f:Key}(hL:aP L)(h:bm L t=true)(h2:t.kind=2):∀n:Nat,n<=16->∀j,j<16->dr (L.length:Int) ((gm L t f n).at j)
 |0,_,j,hj=>by
  unfold gm;exact yH hL h h2 j hj
 |n+1,hn,j,hj=>by
  rw[show((n+1:Nat):Int)=(n:Int)+1 by omega,zV (by omega),cC.fP _ _ _ _ (by omega)]
  split
  ·exact SO (fO.1 hL).1 _ _
  ·exact xK hL h h2 n (by omega) j hj
theorem Bh{L M:List Obj}{g:Int}(hg:pJ L M g)(hge:(aJ L:Int)<=g):decide (g=bK (aJ M))=lV L M:=by
 have:=Oz hg hge
 have e:aK L=g:=by
  have:=hg.2.1;unfold aK;omega
 rw[decide_eq_true e,Bool.and_true]at this;exact this
structure ZF where
 kind:Int
 slot:Int
 key:Key
 other:Key
def nV(l:List Obj):Bool:=decide ((aJ l:Int)<=20)&&eI l
def Wn:kr:=KO (bM Wl jx) (fun _=>True) (fun x=>nV x.1) (fun _=>jZ) (fun _ n=> .lp n 0) (fun x=> .store tS eS x.1)
def zc(L:List Obj)(a:ZF):Bool:=
 if a.kind=1 then false else if a.kind=2 then decide (b8 L a.key a.slot a.other=0)else if a.kind=3 then decide (br L a.key 2 true=0)else if a.kind=4 then decide (dh L a.key a.other=0)else false
def Ir(L:List Obj)(a:ZF):List Obj:=
 if a.kind=1 then L else if a.kind=2 then eJ L a.key a.slot a.other else if a.kind=3 then gV L a.key else if a.kind=4 then gu L a.key a.other else L
theorem qZ(k:Key):ER k k=true:=by simp[ER]
def ZF.wf(x:ZF):Prop:=ck .i64 x.kind/\ck .i64 x.slot/\x.key.wf/\x.other.wf
theorem mG(L:List Obj):lV L L=true:=by unfold lV;simp
theorem FB{L:List Obj}{k:Key}{i:Int}{v:Key}(h:b8 L k i v=0):br L k 2 true=0/\0<=i/\i<16:=by
 unfold b8 mS at h;split at h
 ·rename_i h1;split at h
  ·rename_i h2;simp at h2;exact⟨h1,h2.1,h2.2⟩
  ·omega
 ·rename_i h1;exact absurd h h1
theorem zp{L:List Obj}{a:ZF}(hL:aP L)(h:zc L a=true):aP (Ir L a):=by
 unfold zc at h;unfold Ir;split at h
 ·simp at h
 ·rename_i h1;rw[aq h1];split at h
  ·rename_i h2;rw[ar h2];have h:=ak h;obtain⟨e1,e2,e3⟩:=FB h;obtain⟨a1,a2,_⟩:=lQ e1;unfold eJ;rw[ar h];exact(oE hL a1 a2 (C2 hL a1 a2 e2 e3)).2
  ·rename_i h2;rw[aq h2];split at h
   ·rename_i h3;rw[ar h3];have h:=ak h;obtain⟨a1,a2,_⟩:=lQ h;unfold gV;rw[ar h];exact(oE hL a1 a2 (G0 (by omega))).2
   ·rename_i h3;rw[aq h3];split at h
    ·rename_i h4;rw[ar h4];have h:=ak h;have h':=h;unfold dh at h';split at h'
     ·rename_i h5;obtain⟨a1,a2,_⟩:=lQ h5;unfold gu;rw[ar h];exact(oE hL a1 a2 (xK hL a1 a2 16 (by omega))).2
     ·rename_i h5;exact absurd h' h5
    ·simp at h
section
variable {L:List Obj} {k:Key} {s:cC} (h0:0<=k.oid) (h1:k.oid<(L.length:Int))
include h0 h1
end
theorem fH{L:List Obj}{j:Int}(h0:0<=j)(h1:j<(L.length:Int)):aS L j=aM L j.toNat free:=by
 unfold aS;rw[ar (kc.2 ⟨h0,h1⟩)]
theorem fN{L:List Obj}{i:Nat}{x:Obj}(hi:i<L.length)(j:Nat):aM (eW L i x) j free=if j=i then x else aM L j free:=by
 by_cases e:j=i
 ·subst e;rw[ar rfl];simp[aM,eW,an,hi]
 ·rw[aq e];simp[aM,eW,an,List.getElem?_set,Ne.symm e]
theorem iL{L:List Obj}{i:Nat}{x:Obj}:(eW L i x).length=L.length:=by simp[eW]
theorem o0{κ:Nat->Option Nat}{x a:V}{l m:List V}(h1:fy κ x=some a)(h2:eF κ l=some m):eF κ (x::l)=some (a::m):=by
 simp only[eF];rw[h1];simp only;rw[h2]
def IP{α:Type}(B:ky α)(l:List V):Option α:=match B.rd [] l with
 |some p=>match p.1 with
  | []=>some p.2
  |_=>none
 |none=>none
theorem ow{α:Type}{B:ky α}(hB:iF B)(hid:∀a,lr (B.cn a 0)=true):∀l x,IP B l=some x->ff l (B.cn x 0):=fun l x h=>by
 unfold IP at h;split at h
 case h_2=>simp at h
 rename_i p hp;obtain⟨pls,a⟩:=p;split at h
 case h_2=>simp at h
 rename_i h1;simp only at h1;subst h1;simp only[aa]at h;subst h;obtain⟨_,_,_,b4⟩:=hB _ _ _ _ hp;obtain⟨c1,c2⟩:=b4 [] [];intro J K hk;have e1:=(c1 J K hk).1;have e2:=c2 K hk;have e3:fc (fun _=>False) (B.cn a 0):=oX _ (hid a) e2
 refine⟨?_,oX _ (hid a) e2⟩;rw[<-e1];exact fA (N:=fun _=>False) (fun _ h=>h.elim) _ e3
def X0{α:Type}(B:List V->Option α)(R:α->Prop)(Q:List Obj->α->Prop)(F:List Obj->α->V)(M:List Obj->α->List Obj):kr:=fun args res K=>
 match args with
 |a::l=>match B l with
  |some x=>R x/\match a with
   | .nl v=>match v with
     | .pointer none=>K (F [] x) res
     |_=>False
   | .lp k off=>if off==0 then match aN res k with
     | .store t e L=>if t==tS&&e==eS then Q L x/\K (F L x) (bQ res k (.store tS eS (M L x)))else False
     | .blk t c=>if t==tS&&isZ c then K (F [] x) res else False
     |_=>False
     else False
   |_=>False
  |none=>False
 |_=>False
theorem BB[Fen]{P:Program}{f:Nat}{α:Type}{B:List V->Option α}{m:α->List V}{R:α->Prop}{Q:List Obj->α->Prop}{F:List Obj->α->V}{M:List Obj->α->List Obj}(hB:∀l x,B l=some x->ff l (m x))(hid:∀x,lr (m x)=true)(hF:∀L x,jN (F L x)=true)
  (h0:∀x,R x->aL P f (jZ::m x) [] (qh (F [] x)) (fun _ _=>False)) (hz:∀x,R x->aL P f (.lp 0 0::m x) [.ro (.blk tS zst)] (qh (F [] x)) (fun _ _=>False))
  (h1:∀L x,Q L x->aL P f (.lp 0 0::m x) [.store tS eS L] (z6 (F L x) (M L x)) (fun _ _=>False)):k7 P f (X0 B R Q F M):=by
 intro args res K KP h;unfold X0 at h;split at h
 case h_2=>exact h.elim
 split at h
 case h_2=>exact h.elim
 rename_i x hx;obtain⟨hR,h⟩:=h;refine aL.args (ff.ka (hB _ _ hx)) ?_;split at h
 ·split at h
  ·exact aL.pure (by simp only[lr,jN,Bool.true_and];exact hid x) (hF _ _) ((h0 x hR).mono (fun _ _ h=>dI h) fun _ _ h=>h) h
  ·exact h.elim
 ·split at h
  ·rename_i hoff;have hoff:=ai.1 hoff;subst hoff;split at h
   ·rename_i hr;split at h
    ·rename_i hc;simp only[af,ai]at hc;obtain⟨rfl,rfl⟩:=hc;exact aL.BA hr (hid x) (hF _ _) ((h1 _ x h.1).mono (fun v r hv=>HO hv |> fun⟨a,b⟩=>⟨fun J K=>a J K,b⟩) fun _ _ h=>h) h.2
    ·exact h.elim
   ·rename_i hr;split at h
    ·rename_i hc;simp only[af,ai]at hc;obtain⟨rfl,hz'⟩:=hc;have:=yp hz';subst this;exact aL.M7 (r0:= .blk tS zst) (by unfold cP;rw[hr];rfl) (by simp) (fun κ=>rfl) (hid x) (hF _ _) ((hz x hR).mono (fun _ _ h=>dI h) fun _ _ h=>h) h
    ·exact h.elim
   ·exact h.elim
  ·exact h.elim
 ·exact h.elim
def dV(n:Int):Key:=⟨1,0,0,0,0,n⟩
theorem dH{L:List Obj}(h:aP L)(j:Nat)(hj:j<L.length):bS (aM L j free) (L.length:Int)=true:=(fO.1 h).2.2 j hj
theorem jC{L:List Obj}(h:aP L):1<=L.length/\L.length<=64:=⟨(fO.1 h).1,(fO.1 h).2.1⟩
theorem OO{L M:List Obj}(h:aP L)(hl:M.length=L.length)(hm:∀j,j<L.length->bS (aM M j free) (L.length:Int)=true):aP M:=by
 obtain⟨a,b⟩:=jC h;unfold aP;rw[fO,hl];exact⟨a,b,hm⟩
theorem lK{L:List Obj}{i:Nat}{x:Obj}(h:aP L)(hx:bS x (L.length:Int)=true):aP (eW L i x):=by
 by_cases hi:i<L.length
 ·refine OO h iL fun j hj=>?_
  rw[fN hi];split
  ·exact hx
  ·exact dH h j hj
 ·rw[show eW L i x=L from List.set_eq_of_length_le (by omega)];exact h
theorem lu{L:List Obj}{i:Int}{x:Obj}(h0:0<=i)(h1:i<(L.length:Int))(hx:bS x (L.length:Int)=true):cM L i x=eW L i.toNat x/\fa L i x=0:=by
 have e:cj L i=0:=kc.2 ⟨h0,h1⟩;have e2:cT x (aJ L:Int)=0:=by unfold cT;exact ar hx
 exact⟨(tT e e2).2,(tT e e2).1⟩
theorem RV{n:Int}{s:cC}{k:Key}{j:Nat}(hj:j<16)(h:∀i,i<16->dr n (s.at i))(hk:dr n k)(i:Nat)(hi:i<16):dr n ((s.put j k).at i):=by
 rw[cC.fP _ _ _ _ hj];split
 ·exact hk
 ·exact h i hi
theorem sg{n:Int}(hn:0<=n)(x:Int):dr n (dV x):=by
 refine⟨by simp[dV,bc,ea,iU,dt,ft,eE],?_⟩
 unfold bu;rw[show dt (dV x).kind=false by simp[dV,dt]]
 simp;omega
theorem rW{o:Obj}{n:Int}(h:bS o n=true)(hk:o.kind=1)(i:Nat)(hi:i<16):dr n (o.slots.at i):=by
 obtain⟨a1,a2,a3,a4,a5,a6,a7,a8,a9,a10,a11⟩:=dU.1 h;have:=a10 i hi;rw[hk]at this;exact Mx.1 this
theorem qw(o:Obj):Cv o o=true:=by simp[Cv]
end Go.Sx
