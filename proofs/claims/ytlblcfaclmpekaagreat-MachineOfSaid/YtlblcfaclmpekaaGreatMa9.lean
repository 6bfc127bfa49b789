import Derived.Test.YtlblcfaclmpekaaGreatMa8
set_option linter.unusedSimpArgs false
set_option linter.unusedVariables false
set_option maxRecDepth 100000
namespace Go.Sx
def fX (h:Bool) (n m:Int):Bool:=if h then decide (0<=n)&&decide (n<=m)else decide (n=0)
def ee (n:Int):Bool:=decide (2<=n)&&decide (n<=7)
def pw (n:Int):Bool:=decide (n=2)||decide (n=3)
def gM (n:Int):Bool:=decide (n=7)
def kx (n:Int):Bool:=decide (n=1)||decide (n=6)
def fq (n:Int):Int:=if n=2 then 7 else if n=3 then 1 else 0
def aV (k:Key):Bool:=
 decide (0<=k.kind)&&decide (k.kind<=10)&&decide (0<=k.rights)&&decide (k.rights<=fq k.kind)&&(kx k.kind||decide (k.value=0))&&
 fX (ee k.kind) k.oid 63&&fX (ee k.kind) k.count 4294967295&&fX (gM k.kind) k.call 4294967295
def bw (k:Key):Int:=if aV k then 0 else 2
def bd (k:Key):Int:=if aV k&&ee k.kind then k.oid else -1
def gB (k:Key):Int:=if bd k<0 then 0 else if k.kind=3 then 2 else 1
def cG (k:Key) (o:Obj):Bool:=
 aV k&&(decide (bd k<0)||(decide (o.kind=gB k)&&decide (o.count=k.count)&&(!decide (k.kind=7)||decide (o.calls=k.call))))
def Vo (k:Key):Bool:=decide (0<=k.kind)&&decide (k.kind<=10)
def nz (n:Nat):ByteArray:=
 match n with
 |0=> "void".toUTF8
 |1=> "number".toUTF8
 |2=> "node".toUTF8
 |3=> "page".toUTF8
 |4=> "bank".toUTF8
 |5=> "proc".toUTF8
 |6=> "start".toUTF8
 |7=> "resume".toUTF8
 |8=> "discrim".toUTF8
 |9=> "clock".toUTF8
 |10=> "check".toUTF8
 |_=>ByteArray.empty
def kd (s:ByteArray) (a b c d:Bool) (m w:Int):V:= .ag [.st s,.cb a,.cb b,.cb c,.cb d,.ci .i64 m,.ci .i64 w]
def C1:V:= .ag [kd (nz 0) false false false false 0 0,kd (nz 1) false false false true 0 0,kd (nz 2) true true false false 7 1,kd (nz 3) true true false false 1 2,
 kd (nz 4) true false false false 0 1,kd (nz 5) true false false false 0 1,kd (nz 6) true false false true 0 1,kd (nz 7) true false true false 0 1,
 kd (nz 8) false false false false 0 0,kd (nz 9) false false false false 0 0,kd (nz 10) false false false false 0 0]
def ye (k:Key):ByteArray:=if Vo k then nz k.kind.toNat else ByteArray.empty
def sd (n:Int):Int:=if n=3 then 2 else if 2<=n/\n<=7 then 1 else 0
def OZ:Ct:=mk3 toBool (rI .i64) (rI .i64) fun h n m=> .bo (fX h n m)
def aaz:Ct:=QB rK fun k=> .tp [.ag [.st (ye k),.bo (ee k.kind),.bo (pw k.kind),.bo (gM k.kind),.bo (kx k.kind),.it .i64 (fq k.kind),.it .i64 (sd k.kind)],.bo (aV k)]
def Zo:Ct:=QB (rI .i64) fun n=> .tp [.bo (ee n),.bo (pw n),.bo (gM n),.bo (kx n)]
def UZ:Ct:=QB rK fun k=> .it .i64 (bw k)
def aZ (k:Key):Bool:=aV k&&ee k.kind
def cw (k:Key):Int:=if aZ k then k.oid else 0
def MW:Ct:=QB rK fun k=> .tp [.it .i64 (cw k),.bo (aZ k)]
def M4:Ct:=QB rK fun k=> .it .i64 (bd k)
def La:Ct:=QB rK fun k=> .it .i64 (gB k)
def DZ:Ct:=Sg rK rO fun k o=> .bo (cG k o)
theorem wrap_i64 {n:Int} (h:bY .i64 n):IntKind.wrap .i64 n=n:=by
 have:=h;simp only[bY]at this;unfold IntKind.wrap;simp[IntKind.bits,IntKind.signed];omega
theorem tq {r:Int} (j:Nat) (hj:j<63) (h0:0<=r) (h1:r<=9223372036854775807):bm .andNot .i64 r ((2^j-1:Nat):Int)=0↔r<2^j:=by
 obtain⟨n,rfl⟩:=Int.eq_ofNat_of_zero_le h0;have hn:n<2^64:=by omega
 have hbit:∀i,(BitVec.ofInt 64 (n:Int)).getLsbD i=n.testBit i:=by
  intro i;rw[BitVec.ofInt_natCast,BitVec.getLsbD_ofNat];by_cases hi:i<64
  ·simp[hi]
  ·rw[Nat.testBit_lt_two_pow (Nat.lt_of_lt_of_le hn (Nat.pow_le_pow_right (by omega) (by omega)))];simp
 have hx:(BitVec.ofInt 64 (n:Int) &&& ~~~BitVec.ofInt 64 ((2^j-1:Nat):Int)).toNat=0↔n<2^j:=by
  constructor
  ·intro h;refine Nat.lt_pow_two_of_testBit _ fun i hi=>?_
   rcases Nat.lt_or_ge i 64 with h64|h64
   ·have h2:(BitVec.ofInt 64 (n:Int) &&& ~~~BitVec.ofInt 64 ((2^j-1:Nat):Int)).getLsbD i=false:=by
     rw[BitVec.getLsbD,h];simp
    rw[BitVec.getLsbD_and,hbit,BitVec.getLsbD_not,BitVec.ofInt_natCast,BitVec.getLsbD_ofNat,Nat.testBit_two_pow_sub_one]at h2;simp only[h64,decide_true,Bool.true_and,show¬i<j by omega,decide_false,Bool.not_false,Bool.and_true]at h2
    exact h2
   ·exact Nat.testBit_lt_two_pow (Nat.lt_of_lt_of_le hn (Nat.pow_le_pow_right (by omega) h64))
  ·intro h
   have:BitVec.ofInt 64 (n:Int) &&& ~~~BitVec.ofInt 64 ((2^j-1:Nat):Int)=0#64:=by
    refine BitVec.eq_of_getLsbD_eq fun i hi=>?_
    rw[BitVec.getLsbD_and,hbit,BitVec.getLsbD_not,BitVec.ofInt_natCast,BitVec.getLsbD_ofNat,Nat.testBit_two_pow_sub_one];by_cases hij:i<j
    ·simp[hij,hi]
    ·rw[Nat.testBit_lt_two_pow (Nat.lt_of_lt_of_le h (Nat.pow_le_pow_right (by omega) (by omega)))];simp
   rw[this];rfl
 have hle:(BitVec.ofInt 64 (n:Int) &&& ~~~BitVec.ofInt 64 ((2^j-1:Nat):Int)).toNat<=n:=by
  rw[BitVec.toNat_and];refine Nat.le_trans Nat.and_le_left ?_;rw[BitVec.ofInt_natCast,BitVec.toNat_ofNat];exact Nat.mod_le _ _
 have hp:((2^j:Nat):Int)=(2:Int)^j:=by simp
 change IntKind.wrap .i64 (((BitVec.ofInt 64 (n:Int) &&& ~~~BitVec.ofInt 64 ((2^j-1:Nat):Int)).toNat:Nat):Int)=0↔_
 generalize (BitVec.ofInt 64 (n:Int) &&& ~~~BitVec.ofInt 64 ((2^j-1:Nat):Int)).toNat=x at *
 rw[wrap_i64 (by simp only[bY];omega),<-hp]
 omega
theorem Rc {r:Int} (h0:0<=r) (h1:r<=9223372036854775807):bm .andNot .i64 r 7=0↔r<=7:=by
 have:=tq 3 (by omega) h0 h1
 rw[show((2^3-1:Nat):Int)=7 from rfl,show(2:Int)^3=8 from rfl]at this;rw[this];omega
theorem RT {r:Int} (h0:0<=r) (h1:r<=9223372036854775807):bm .andNot .i64 r 1=0↔r<=1:=by
 have:=tq 1 (by omega) h0 h1
 rw[show((2^1-1:Nat):Int)=1 from rfl,show(2:Int)^1=2 from rfl]at this;rw[this];omega
theorem Sn {r:Int} (h0:0<=r) (h1:r<=9223372036854775807):bm .andNot .i64 r 0=0↔r<=0:=by
 have:=tq 0 (by omega) h0 h1
 rw[show((2^0-1:Nat):Int)=0 from rfl,show(2:Int)^0=1 from rfl]at this;rw[this];omega
theorem Ns {r m:Int} {b:Bool} (h:0<=r->(b=decide (r<=m))):(decide (0<=r)&&b)=(decide (0<=r)&&decide (r<=m)):=by
 by_cases h0:0<=r
 ·rw[h h0]
 ·simp[h0]
end Go.Sx
namespace Go.Proofs.YtlblcfaclmpekaaGreat
open Go.Sx
theorem Ka (h:Bool) (n m:Int):
 (h&&decide (0<=n)&&decide (n<=m)|| !h&&decide (n=0))=fX h n m:=by
 unfold fX;cases h<;>simp
theorem JR:cq Tryz.prog 105 OZ:=
 O8 L7 (gi .i64) (gi .i64) (fun _ _ _=>rfl) fun h n m _ _ _=>ba (inl:=bx) (ann:=aQ) aq (Ka h n m) (by kernel_rfl)
theorem NU:cq Tryz.prog 104 (YJ C1):=
 Xq rfl (ba (inl:=bx) (ann:=aQ) aq (G:=C1=C1) rfl (by kernel_rfl):an _ _ _ _ (fun v _=>v=C1) (fun _ _=>False))
abbrev acB(k:Key):=aj [false,false,true,true,true,true,true,true,false,false,false] k.kind.toNat false
theorem Xt (k:Key) (hk:k.wf):
 aba (decide (k.kind<0)||decide (10<k.kind)) ({data:={toList:=[]}}=ye k/\false=ee k.kind/\false=pw k.kind/\false=gM k.kind/\false=kx k.kind/\0=fq k.kind/\0=sd k.kind/\false=aV k) ((0<=k.kind/\k.kind< ↑11)/\aj [nz 0,nz 1,nz 2,nz 3,nz 4,nz 5,nz 6,nz 7,nz 8,nz 9,nz 10] k.kind.toNat {data:={toList:=[]}}=ye k/\aj [false,false,true,true,true,true,true,true,false,false,false] k.kind.toNat false=ee k.kind/\aj [false,false,true,true,false,false,false,false,false,false,false] k.kind.toNat false=pw k.kind/\aj [false,false,false,false,false,false,false,true,false,false,false] k.kind.toNat false=gM k.kind/\aj [false,true,false,false,false,false,true,false,false,false,false] k.kind.toNat false=kx k.kind/\aj [0,0,7,1,0,0,0,0,0,0,0] k.kind.toNat 0=fq k.kind/\aj [0,0,1,2,1,1,1,1,0,0,0] k.kind.toNat 0=sd k.kind/\(fX (acB k) k.oid 63&&fX (acB k) k.count 4294967295&&fX (aj [false,false,false,false,false,false,false,true,false,false,false] k.kind.toNat false) k.call 4294967295&&decide (0<=k.rights)&&decide (bm BinOp.andNot IntKind.i64 k.rights (aj [0,0,7,1,0,0,0,0,0,0,0] k.kind.toNat 0)=0)&&(aj [false,true,false,false,false,false,true,false,false,false,false] k.kind.toNat false||decide (k.value=0)))=aV k):=by
 delta aba acB
 obtain⟨kind,oid,count,call,rights,value⟩:=k;have hr:rights<=9223372036854775807:=hk.2.2.2.2.1.2;simp only;have he:(ByteArray.empty:ByteArray)= {data:= {toList:= []}}:=rfl;refine⟨fun h=>?_,fun h=>?_⟩
 ·simp only[Bool.or_eq_true,aa3]at h;refine⟨?_,?_,?_,?_,?_,?_,?_,?_⟩<;>simp only[ye,Vo,ee,pw,gM,kx,fq,sd,aV]<;>grind
 ·simp only[Bool.or_eq_false_iff,decide_eq_false_iff_not]at h;have hb:∀m,(0<=rights->(decide (bm .andNot .i64 rights m=0))=decide (rights<=m))->(decide (0<=rights)&&decide (bm .andNot .i64 rights m=0))=(decide (0<=rights)&&decide (rights<=m)):=fun m hm=>Ns hm
  have h7:=hb 7 fun h0=>by rw[decide_eq_decide];exact Rc h0 hr
  have h1:=hb 1 fun h0=>by rw[decide_eq_decide];exact RT h0 hr
  have h0:=hb 0 fun h0=>by rw[decide_eq_decide];exact Sn h0 hr
  have hc:kind=0\/kind=1\/kind=2\/kind=3\/kind=4\/kind=5\/kind=6\/kind=7\/kind=8\/kind=9\/kind=10:=by omega
  rcases hc with rfl|rfl|rfl|rfl|rfl|rfl|rfl|rfl|rfl|rfl|rfl<;>
   refine⟨⟨by decide,by decide⟩,rfl,rfl,rfl,rfl,rfl,rfl,rfl,?_⟩<;>
   simp only[aj,aV,ee,kx,gM,fq,Int.reduceToNat,List.getD_cons_zero,List.getD_cons_succ,Bool.and_assoc]<;>
   simp+decide [fX]<;>grind
theorem Ai:cq Tryz.prog 67 aaz:=
 pU gH (fun _=>rfl) fun k hk=>ba (inl:=bx) (ann:=aQ) (ae JR (ae NU aq)) (Xt k hk) (by kernel_rfl)
theorem R5 (k:Key) (hk:k.wf):
 ((!aV k)=true->2=bw k)/\((!aV k)=false->0=bw k):=by
 unfold bw;cases aV k<;>simp
theorem gy:cq Tryz.prog 69 UZ:=
 pU gH (fun _=>rfl) fun k hk=>ba (inl:=bx) (ann:=aQ) (ae Ai aq) (R5 k hk) (by kernel_rfl)
theorem Jf (k:Key) (hk:k.wf):
 ((!aV k|| !ee k.kind)=true->0=cw k/\false=aZ k)/\
   ((!aV k|| !ee k.kind)=false->k.oid=cw k/\true=aZ k):=by
 unfold cw aZ;cases aV k<;>cases ee k.kind<;>simp
theorem dH:cq Tryz.prog 46 MW:=
 pU gH (fun _=>rfl) fun k hk=>ba (inl:=bx) (ann:=aQ) (ae Ai aq) (Jf k hk) (by kernel_rfl)
theorem FK (k:Key) (o:Sx.Obj) (hk:k.wf):
 aba (!aV k) (false=cG k o) (aba (!ee k.kind) (true=cG k o) ((decide (o.kind=sd k.kind)&&decide (o.count=k.count)&&(!gM k.kind||decide (o.calls=k.call)))=cG k o)):=by
 delta aba
 cases hok:aV k
 ·simp[cG,hok]
 ·have h0:ee k.kind=true->0<=k.oid:=fun h=>by
   simp only[aV,fX,h,if_true,aa2,aa3]at hok;omega
  simp only[cG,gB,bd,sd,gM,hok,Bool.true_and];simp only[ee]at *;grind
theorem yW:cq Tryz.prog 47 DZ:=
 nQ gH zr (fun _ _=>rfl) fun k o hk _=>ba (inl:=bx) (ann:=aQ) (ae Ai aq) (FK k o hk) (by kernel_rfl)
theorem Yj (n:Int):
 (decide (2<=n)&&decide (n<=7))=ee n/\
  (decide (n=2)||decide (n=3))=pw n/\
   decide (n=7)=gM n/\(decide (n=1)||decide (n=6))=kx n:=by
 exact⟨rfl,rfl,rfl,rfl⟩
theorem Ni:cq Tryz.prog 106 Zo:=
 pU (gi .i64) (fun _=>rfl) fun n _=>ba (inl:=bx) (ann:=aQ) aq (Yj n) (by kernel_rfl)
abbrev acC(k:Key):=aba (ee k.kind&&(decide (k.oid<0)||decide (64<=k.oid)||decide (k.count<0)||decide (4294967295<k.count))|| !ee k.kind&&(!decide (k.oid=0)|| !decide (k.count=0))) (2=bw k) (aba (gM k.kind&&(decide (k.call<0)||decide (4294967295<k.call))|| !gM k.kind&& !decide (k.call=0)) (2=bw k) (0=bw k))
abbrev acD(k:Key):=aba (decide (k.kind<0)||decide (10<k.kind)||decide (k.rights<0)||decide (1<k.rights)|| !kx k.kind&& !decide (k.value=0)) (2=bw k) (acC k)
theorem R4 (k:Key) (hk:k.wf):
 aba (pw k.kind) (aba (decide (k.kind=3)) (acD k) (aba (decide (k.kind<0)||decide (10<k.kind)||decide (k.rights<0)||decide (7<k.rights)|| !kx k.kind&& !decide (k.value=0)) (2=bw k) (acC k))) (aba (decide (k.kind=3)) (acD k) (aba (decide (k.kind<0)||decide (10<k.kind)||decide (k.rights<0)||decide (0<k.rights)|| !kx k.kind&& !decide (k.value=0)) (2=bw k) (acC k))):=by
 delta aba acD acC
 simp only[bw,aV,fX,fq,pw];rcases Bool.eq_false_or_eq_true (ee k.kind)with hA|hA<;>rcases Bool.eq_false_or_eq_true (gM k.kind)with hB|hB<;>rcases Bool.eq_false_or_eq_true (kx k.kind)with hC|hC<;>simp only[hA,hB,hC,Bool.true_and,Bool.false_and,Bool.not_true,Bool.not_false,Bool.or_false,Bool.false_or,Bool.true_or,if_true,Bool.false_eq_true,if_false,Bool.and_true]<;>grind
theorem rV:cq Tryz.prog 70 UZ:=
 pU gH (fun _=>rfl) fun k hk=>ba (inl:=bx) (ann:=aQ) (ae Ni aq) (R4 k hk) (by kernel_rfl)
theorem Jm (k:Key) (hk:k.wf):
 ((!decide (bw k=0)|| !ee k.kind)=true-> -1=bd k)/\
   ((!decide (bw k=0)|| !ee k.kind)=false->k.oid=bd k):=by
 unfold bd bw;cases aV k<;>cases ee k.kind<;>simp
theorem np:cq Tryz.prog 71 M4:=
 pU gH (fun _=>rfl) fun k hk=>ba (inl:=bx) (ann:=aQ) (ae Ni (ae rV aq)) (Jm k hk) (by kernel_rfl)
theorem IM (k:Key) (hk:k.wf):
 (decide (bd k<0)=true->0=gB k)/\
  (decide (bd k<0)=false->
   (decide (k.kind=3)=true->2=gB k)/\(decide (k.kind=3)=false->1=gB k)):=by
 unfold gB;grind
theorem JO:cq Tryz.prog 134 La:=
 pU gH (fun _=>rfl) fun k hk=>ba (inl:=bx) (ann:=aQ) (ae np aq) (IM k hk) (by kernel_rfl)
theorem Gk (k:Key) (o:Sx.Obj) (hk:k.wf):
 aba (!decide (bw k=0)) (false=cG k o) (aba (decide (bd k<0)) (true=cG k o) ((decide (o.kind=gB k)&&decide (o.count=k.count)&&(!decide (k.kind=7)||decide (o.calls=k.call)))=cG k o)):=by
 delta aba
 unfold cG bw;cases aV k<;>grind
theorem GM:cq Tryz.prog 107 DZ:=
 nQ gH zr (fun _ _=>rfl) fun k o hk _=>ba (inl:=bx) (ann:=aQ) (ae rV (ae np (ae JO aq))) (Gk k o hk) (by kernel_rfl)
end Go.Proofs.YtlblcfaclmpekaaGreat
namespace Go.Sx
def jk (kind n:Int) (k:Key):Bool:=aV k&&decide (bd k<n)&&(decide (kind=1)||decide (k=void))
def bP (o:Obj) (n:Int):Bool:=
 decide (1<=n)&&decide (n<=64)&&decide (0<=o.kind)&&decide (o.kind<=3)&&decide (0<=o.count)&&decide (o.count<=4294967295)&&decide (0<=o.calls)&&decide (o.calls<=4294967295)&&
 (decide (o.kind=1)||decide (o.calls=0))&&(List.range 16).all (fun i=>jk o.kind n (o.slots.at i))&&
 (List.range 64).all (fun i=>decide (o.kind=1)||decide (o.kind=2)||decide (o.bytes.at i=0))
def c8 (o:Obj) (n:Int):Int:=if bP o n then 0 else 2
def ll (o:Obj) (b:Bool):Bool:=decide (o.slots=gV)&&(b||decide (o.bytes=fa))&&decide (o.calls=0)
def CC (o:Obj) (n:Int) (i:Int):Prop:=0<=i/\i<=16/\∀j:Nat,(j:Int)<i->jk o.kind n (o.slots.at j)=true
def C4 (o:Obj) (n:Int) (i:Int):Prop:=0<=i/\i<=64/\(∀j:Nat,j<16->jk o.kind n (o.slots.at j)=true)/\∀j:Nat,(j:Int)<i->(o.kind=1\/o.kind=2\/o.bytes.at j=0)
def pb (o:Obj) (n:Int) (i:Int):Bool:=(List.range i.toNat).all fun j=>aV (o.slots.at j)&&decide (bd (o.slots.at j)<n)
def Cn (i:Int):Prop:=0<=i/\i<=16
def W8:Ct:=Sg rO toBool fun o b=> .bo (ll o b)
def PV:Ct:=Sg rO (rI .i64) fun o n=> .it .i64 (c8 o n)
theorem dS {o:Obj} {n:Int}:bP o n=true↔1<=n/\n<=64/\0<=o.kind/\o.kind<=3/\0<=o.count/\o.count<=4294967295/\0<=o.calls/\o.calls<=4294967295/\
  (o.kind=1\/o.calls=0)/\(∀i,i<16->jk o.kind n (o.slots.at i)=true)/\∀i,i<64->(o.kind=1\/o.kind=2)\/o.bytes.at i=0:=by
 simp only[bP,aa2,aa3,Bool.or_eq_true,List.all_eq_true,List.mem_range,and_assoc]
theorem qa {o:Obj} {n:Int} (h:¬bP o n=true):2=c8 o n:=by simp[c8,h]
theorem ry {o:Obj} {n:Int} (h:bP o n=true):0=c8 o n:=by simp[c8,h]
theorem J2 (kind n:Int) (k:Key):(!decide (bw k=0)||decide (n<=bd k)|| !decide (kind=1)&& !yf k void)= !jk kind n k:=by
 unfold jk bw yf;cases aV k<;>grind
theorem Q3 (b:UInt8):decide (Ux b=0)=decide (b=0):=by
 rw[decide_eq_decide,Ux];constructor
 ·intro h;have:b.toNat=0:=by omega
  exact UInt8.toNat_inj.1 (by simpa using this)
 ·rintro rfl;rfl
theorem HF {s:cL}:s=gV↔ ∀i,i<16->s.at i=void:=by
 constructor
 ·rintro rfl i _;exact yO i
 ·intro h;refine Vector.ext fun i hi=>?_
  have:=h i hi;unfold cL.at at this;simp only[gV,Vector.getElem_replicate];rw[<-this];simp[hi]
theorem Hh {s:Bytes}:s=fa↔ ∀i,i<64->s.at i=0:=by
 constructor
 ·rintro rfl i hi
  unfold Bytes.at fa;simp[hi]
 ·intro h;refine Vector.ext fun i hi=>?_
  have:=h i hi;unfold Bytes.at at this;simp only[fa,Vector.getElem_replicate];rw[<-this];simp[hi]
theorem mV:aV void=true/\bd void= -1:=by decide
theorem xq {kind n:Int} (hk:kind≠1) (hn:1<=n) (k:Key):jk kind n k=true↔k=void:=by
 unfold jk;simp only[aa2,aa3,Bool.or_eq_true];constructor
 ·rintro⟨_,h|h⟩
  ·exact absurd h hk
  ·exact h
 ·rintro rfl
  exact⟨⟨mV.1,by rw[mV.2];omega⟩,.inr rfl⟩
theorem Lp {o:Obj} {b:Bool}:ll o b=true↔(∀i,i<16->o.slots.at i=void)/\(b=true\/∀i,i<64->o.bytes.at i=0)/\o.calls=0:=by
 simp only[ll,aa2,aa3,Bool.or_eq_true,HF,Hh,and_assoc]
theorem F9 {o:Obj} {n:Int} (h1:1<=n) (h2:n<=64) (h3:0<=o.count) (h4:o.count<=4294967295) (h5:0<=o.calls) (h6:o.calls<=4294967295) {b:Bool} (hk:0<=o.kind/\o.kind<=3/\o.kind≠1) (hb:b=decide (o.kind=2)):
  bP o n=ll o b:=by
 rw[Bool.eq_iff_iff,dS,Lp];subst hb;constructor
 ·rintro⟨_,_,_,_,_,_,_,_,h,hs,hz⟩
  refine⟨fun i hi=>(xq hk.2.2 h1 _).1 (hs i hi),?_,h.resolve_left hk.2.2⟩
  by_cases h2:o.kind=2
  ·exact .inl (by simp[h2])
  ·exact .inr fun i hi=>(hz i hi).resolve_left fun h=>h.elim hk.2.2 h2
 ·rintro⟨hs,hz,hc⟩
  refine⟨h1,h2,hk.1,hk.2.1,h3,h4,h5,h6,.inr hc,fun i hi=>(xq hk.2.2 h1 _).2 (hs i hi),fun i hi=>?_⟩
  rcases hz with h|h
  ·exact .inl (.inr (by simpa using h))
  ·exact .inr (h i hi)
theorem Gl {o:Obj} {n:Int} (h1:1<=n) (h2:n<=64) (h3:0<=o.count) (h4:o.count<=4294967295) (h5:0<=o.calls) (h6:o.calls<=4294967295) (hk:o.kind=1):bP o n=pb o n 16:=by
 rw[Bool.eq_iff_iff,dS];simp only[pb,List.all_eq_true,List.mem_range,hk,jk,aa2,decide_true,Bool.true_or,and_true];constructor
 ·rintro⟨_,_,_,_,_,_,_,_,_,hs,_⟩
  exact fun i hi=>hs i hi
 ·intro hs;exact⟨h1,h2,by omega,by omega,h3,h4,h5,h6,.inl trivial,fun i hi=>hs i hi,fun i hi=> .inl (.inl trivial)⟩
theorem Qu {o:Obj} {n g:Int}:(pb o n g&&decide (bw (o.slots.at g.toNat)=0)&&(!aZ (o.slots.at g.toNat)||decide (cw (o.slots.at g.toNat)<n)))=
  (pb o n g&&(aV (o.slots.at g.toNat)&&(!aZ (o.slots.at g.toNat)||decide ((o.slots.at g.toNat).oid<n)))):=by
 unfold bw cw;cases aV (o.slots.at g.toNat)<;>cases aZ (o.slots.at g.toNat)<;>simp
theorem OM {o:Obj} {n g:Int} (h0:0<=g) (hn:1<=n):(pb o n g&&decide (bw (o.slots.at g.toNat)=0)&&(!aZ (o.slots.at g.toNat)||decide (cw (o.slots.at g.toNat)<n)))=pb o n (g+1):=by
 rw[Qu];unfold pb;rw[show(g+1).toNat=g.toNat+1 by omega,List.range_succ,List.all_append]
 simp only[List.all_cons,List.all_nil,Bool.and_true];congr 1
 unfold bd aZ;cases aV (o.slots.at g.toNat)
 ·rfl
 ·cases ee (o.slots.at g.toNat).kind
  ·simp;omega
  ·simp
end Go.Sx
namespace Go.Proofs.YtlblcfaclmpekaaGreat
open Go.Sx
theorem Tv (o:Sx.Obj) (b:Bool):
 (D4 o.slots gV&&(b||Fg o.bytes fa)&&decide (o.calls=0))=ll o b:=by
 unfold ll D4 Fg;rfl
theorem Se:cq Tryz.prog 68 W8:=
 nQ zr L7 (fun _ _=>rfl) fun o b _ _=>ba (inl:=bx) (ann:=aQ) aq (Tv o b) (by kernel_rfl)
theorem MG (o:Sx.Obj) (n:Int):
 aba (decide (n<1)||decide (64<n)||decide (o.kind<0)||decide (3<o.kind)||decide (o.count<0)||decide (4294967295<o.count)||decide (o.calls<0)||decide (4294967295<o.calls)|| !decide (o.kind=1)&& !decide (o.calls=0)) (2=c8 o n) ((∃g,CC o n g/\n=n/\o.kind=o.kind/\0=g/\o=o)/\∀(g:Int),CC o n g->aba (decide (g<16)) ((0<=g/\g< ↑16)/\((!!decide (bw (o.slots.at g.toNat)=0))=true->0<=g/\g< ↑16)/\((!decide (o.kind=1)&& !(!decide (bw (o.slots.at g.toNat)=0)||decide (n<=bd (o.slots.at g.toNat))))=true->0<=g/\g< ↑16)/\aba (!decide (bw (o.slots.at g.toNat)=0)||decide (n<=bd (o.slots.at g.toNat))|| !decide (o.kind=1)&& !yf (o.slots.at g.toNat) void) (2=c8 o n) (abd (g+1)/\∃g',CC o n g'/\(16-g').toNat<(16-g).toNat/\n=n/\o.kind=o.kind/\g+1=g'/\o=o)) ((∃g,C4 o n g/\n=n/\o.kind=o.kind/\0=g/\o=o)/\∀(g:Int),C4 o n g->aba (decide (g<64)) (((!decide (o.kind=1)&& !decide (o.kind=2))=true->0<=g/\g< ↑64)/\aba (!decide (o.kind=1)&& !decide (o.kind=2)&& !decide (Ux (o.bytes.at g.toNat)=0)) (2=c8 o n) (abd (g+1)/\∃g',C4 o n g'/\(64-g').toNat<(64-g).toNat/\n=n/\o.kind=o.kind/\g+1=g'/\o=o)) (0=c8 o n))):=by
 delta aba abd
 refine⟨fun h=>qa fun hh=>?_,fun h=>⟨⟨0,⟨by omega,by omega,fun j hj=>by omega⟩,rfl,rfl,rfl,rfl⟩,fun g hg=>⟨fun hlt=>?_,fun hge=>?_⟩⟩⟩
 ·have:=dS.1 hh;simp only[Bool.or_eq_true,aa2,Bool.not_eq_true',aa3,decide_eq_false_iff_not]at h;omega
 ·obtain⟨g0,g1,g2⟩:=hg;have hlt:=aa6 hlt;rw[J2];refine⟨⟨g0,by omega⟩,fun _=>⟨g0,by omega⟩,fun _=>⟨g0,by omega⟩,fun hbad=>qa fun hh=>?_,fun hok=>⟨?_,g+1,⟨by omega,by omega,fun j hj=>?_⟩,by omega,rfl,rfl,rfl,rfl⟩⟩
  ·have:=(dS.1 hh).2.2.2.2.2.2.2.2.2.1 g.toNat (by omega)
   rw[this]at hbad;simp at hbad
  ·simp only[aF,bY];omega
  ·by_cases e:(j:Int)<g
   ·exact g2 j e
   ·have:j=g.toNat:=by omega
    subst this;simpa using hok
 ·obtain⟨g0,g1,g2⟩:=hg;have hge:¬g<16:=aa5 hge;refine⟨⟨0,⟨by omega,by omega,fun j hj=>g2 j (by omega),fun j hj=>by omega⟩,rfl,rfl,rfl,rfl⟩,fun g hg=>⟨fun hlt=>?_,fun hge=>ry ?_⟩⟩
  ·obtain⟨k0,k1,k2,k3⟩:=hg;have hlt:=aa6 hlt;simp only[Q3];refine⟨fun _=>⟨k0,by omega⟩,fun hbad=>qa fun hh=>?_,fun hok=>⟨?_,g+1,⟨by omega,by omega,k2,fun j hj=>?_⟩,by omega,by simp⟩⟩
   ·have:=(dS.1 hh).2.2.2.2.2.2.2.2.2.2 g.toNat (by omega)
    simp only[aa2,Bool.not_eq_true',decide_eq_false_iff_not]at hbad;grind
   ·simp only[aF,bY];omega
   ·by_cases e:(j:Int)<g
    ·exact k3 j e
    ·have:j=g.toNat:=by omega
     subst this;simp only[Bool.and_eq_false_iff,Bool.not_eq_false',aa3]at hok;grind
  ·obtain⟨k0,k1,k2,k3⟩:=hg;have hge:¬g<64:=aa5 hge;simp only[Bool.or_eq_false_iff,Bool.and_eq_false_iff,Bool.not_eq_false',aa3,decide_eq_false_iff_not]at h;refine dS.2 ⟨by omega,by omega,by omega,by omega,by omega,by omega,by omega,by omega,by omega,k2,fun i hi=>?_⟩
   have:=k3 i (by omega)
   grind
theorem N8:cq Tryz.prog 65 PV:=
 nQ zr (gi .i64) (fun _ _=>rfl) fun o n _ _=>ba (inl:=bx) (ann:=(iv [(65,5,lpI [1,2,5] 6 (CC o n) 16),(65,10,lpI [1,2,5] 7 (C4 o n) 64)])) (ae rV (ae np aq)) (MG o n) (by kernel_rfl)
theorem Td (o:Sx.Obj) (n:Int):
 aba (decide (n<1)||decide (64<n)||decide (o.count<0)||decide (4294967295<o.count)||decide (o.calls<0)||decide (4294967295<o.calls)) (2=c8 o n) (aba (decide (o.kind=0)) (aba (!ll o false) (2=c8 o n) (0=c8 o n)) (aba (decide (o.kind=3)) (aba (!ll o false) (2=c8 o n) (0=c8 o n)) (aba (decide (o.kind=2)) (aba (!ll o true) (2=c8 o n) (0=c8 o n)) (aba (decide (o.kind=1)) ((∃g,Cn g/\n=n/\true=pb o n g/\o.slots=o.slots/\0=g/\o=o)/\∀(g:Int),Cn g->aba (decide (g<16)) ((0<=g/\g< ↑16)/\aF IntKind.i64 (g+1)/\∃g',Cn g'/\(16-g').toNat<(16-g).toNat/\n=n/\(pb o n g&&decide (bw (o.slots.at g.toNat)=0)&&(!aZ (o.slots.at g.toNat)||decide (cw (o.slots.at g.toNat)<n)))=pb o n g'/\o.slots=o.slots/\g+1=g'/\o=o) (aba (!pb o n g) (2=c8 o n) (0=c8 o n))) (2=c8 o n))))):=by
 delta aba
 refine⟨fun h=>qa fun hh=>?_,fun h=>?_⟩
 ·have:=dS.1 hh;simp only[Bool.or_eq_true,aa3]at h;omega
 ·simp only[Bool.or_eq_false_iff,decide_eq_false_iff_not]at h
  have hb:∀(b:Bool),(0<=o.kind/\o.kind<=3/\o.kind≠1)->b=decide (o.kind=2)->((!ll o b)=true->2=c8 o n)/\((!ll o b)=false->0=c8 o n):=fun b h1 h2=>by
   have he:=F9 (o:=o) (n:=n) (b:=b) (by omega) (by omega) (by omega) (by omega) (by omega) (by omega) h1 h2
   exact⟨fun hn=>qa (by rw[he];simpa using hn),fun hy=>ry (by rw[he];simpa using hy)⟩
  refine⟨fun h0=>?_,fun h0=>⟨fun h3=>?_,fun h3=>⟨fun h2=>?_,fun h2=>⟨fun h1=>⟨⟨0,⟨by omega,by omega⟩,rfl,rfl,rfl,rfl,rfl⟩,fun g hg=>⟨fun hlt=>?_,fun hge=>?_⟩⟩,fun h1=>qa fun hh=>?_⟩⟩⟩⟩
  ·have h0:=aa6 h0;exact hb false (by omega) (by simp[h0])
  ·have h3:=aa6 h3;exact hb false (by omega) (by simp[h3])
  ·have h2:=aa6 h2;exact hb true (by omega) (by simp[h2])
  ·obtain⟨g0,g1⟩:=hg;have hlt:=aa6 hlt;refine⟨⟨g0,by omega⟩,by simp only[aF,bY];omega,g+1,⟨by omega,by omega⟩,by omega,rfl,OM g0 (by omega),rfl,rfl,rfl⟩
  ·obtain⟨g0,g1⟩:=hg;have hge:¬g<16:=aa5 hge;have h1:=aa6 h1;have e:g=16:=by omega
   subst e;have he:=Gl (o:=o) (n:=n) (by omega) (by omega) (by omega) (by omega) (by omega) (by omega) h1
   exact⟨fun hn=>qa (by rw[he];simpa using hn),fun hy=>ry (by rw[he];simpa using hy)⟩
  ·have:=dS.1 hh;have h0:¬o.kind=0:=aa5 h0;have h1:¬o.kind=1:=aa5 h1;have h2:¬o.kind=2:=aa5 h2;have h3:¬o.kind=3:=aa5 h3;omega
theorem Ck:cq Tryz.prog 48 PV:=
 nQ zr (gi .i64) (fun _ _=>rfl) fun o n _ _=>ba (inl:=bx) (ann:=(iv [(48,12,UO [1,2,51] (fun g=> [(52,.it .i64 g),(5,.bo (pb o n g))]) Cn 16)])) (ae Se (ae gy (ae dH aq))) (Td o n) (by kernel_rfl)
end Go.Proofs.YtlblcfaclmpekaaGreat
namespace Go.Sx
def bn (L:List Obj):Bool:=decide (ai L=0)
def du (L:List Obj) (oid:Int):Int:=if ai L=0 then 1 else if oid<0\/(ai L:Int)<=oid then 4 else 0
def aL (L:List Obj) (oid:Int):Obj:=if du L oid=0 then aj L oid.toNat free else free
def ak (L:List Obj):Int:=(ai L:Int)
def aU (L:List Obj) (k:Key):Bool:=aZ k&&decide (du L k.oid=0)&&cG k (aj L k.oid.toNat free)
def aa (L:List Obj) (k:Key):Obj:=if aU L k then aj L k.oid.toNat free else free
abbrev abp(L:List Obj)(k:Key)(i:Nat):Key:=(aa L k).slots.at i
def ah (L:List Obj) (k:Key):Key:=if bn L|| !aV k||(aZ k&& !aU L k)then void else k
def jC (n:Int):Bool:=decide (1<=n)&&decide (n<=64)
def mC (n:Int):List Obj:=List.replicate n.toNat free
def cN (L:List Obj) (i:Int) (o:Obj):List Obj:=if du L i=0/\c8 o (ai L:Int)=0 then cA L i.toNat o else L
def fJ (L:List Obj) (i:Int) (o:Obj):Int:=if du L i=0 then c8 o (ai L:Int)else du L i
def fN (l:List Obj):Bool:=decide (1<=ai l)&&decide (ai l<=64)&&(List.range (ai l)).all fun i=>bP (aj l i free) (ai l:Int)
def kf (l:List Obj) (g:Int):List Obj:=l.take g.toNat++List.replicate (l.length-g.toNat) free
def rJ (l:List Obj) (g:Int):Prop:=0<=g/\g<=(ai l:Int)/\∀j:Nat,(j:Int)<g->bP (aj l j free) (ai l:Int)=true
def Cc (n i:Int):Prop:=0<=i/\i<=n
abbrev tS:Nat:=102
abbrev eS:Nat:=106
def Va (c:Bool) (M:List Obj) (v:V) (r:List aK):Prop:=
 match v with
 | .tp l=>match l with
   | [a,b]=>match a with
     | .nl p=>match p with
       | .pointer none=>c=false/\oq (.ci .i64 2) b r
       |_=>False
     | .lp j off=>match Fy r j with
       |some (t,e,L)=>if off==0&&t==tS&&e==eS then c=true/\oq (.ci .i64 0) b r/\L=M else False
       |none=>False
     |_=>False
   |_=>False
 |_=>False
def aaZ (n:Int):V->List aK->Prop:=Va (jC n) (mC n)
def kOf (l:List Obj) (v:V) (r:List aK):Prop:=
 match ay r 0 with
 | .ro _=>Va (fN l) l v r
 |_=>False
theorem Ii {l:List Obj} {v:V} {r:List aK} (h:kOf l v r):Va (fN l) l v r/\Fy r 0=none:=by
 unfold kOf at h;split at h
 ·rename_i hr;refine⟨h,?_⟩;unfold Fy E8;rw[hr]
 ·exact h.elim
def kSt (x:V) (M:List Obj) (v:V) (r:List aK):Prop:=
 match E8 r 0 with
 |some (t,e,_,L)=>if t==tS&&e==eS then oq x v r/\L=M else False
 |none=>False
def Vp:kc:=fun args res K=>
 match args with
 | [a]=>match rI .i64 a with
   |some n=>(jC n=false->K (.tp [jJ,.ci .i64 2]) res)/\(jC n=true->K (.tp [.lp res.length 0,.ci .i64 0]) (res++ [.store tS eS (mC n)]))
   |none=>False
 |_=>False
def Y9 (c:V):Bool:=
 match c with
 | .ag l=>match l with
   | [x]=>match x with
     | .nl v=>match v with
       | .slice none 0 0=>true
       |_=>false
     |_=>false
   |_=>false
 |_=>false
theorem Ae {c:V} (h:Y9 c=true):c= .ag [.nl (.slice none 0 0)]:=by
 unfold Y9 at h;split at h
 ·split at h
  ·split at h
   ·split at h
    ·rfl
    ·simp at h
   ·simp at h
  ·simp at h
 ·simp at h
def Vm:kc:=fun args res K=>
 match args with
 | [a,b,c]=>match rI .i64 b with
   |some i=>match rO c with
    |some o=>match a with
     | .nl v=>match v with
       | .pointer none=>K (.it .i64 (fJ [] i o)) res
       |_=>False
     | .lp k off=>if off==0 then match ay res k with
       | .store t e L=>if t==tS&&e==eS then K (.it .i64 (fJ L i o)) (bO res k (.store tS eS (cN L i o)))else False
       | .blk t c=>if t==tS&&Y9 c then K (.it .i64 (fJ [] i o)) res else False
       |_=>False
       else False
     |_=>False
    |none=>False
   |none=>False
 |_=>False
structure Stp where
 puts:Bool
 oid:Int
 ob:Obj
def Stp.wf (x:Stp):Prop:=bY .i64 x.oid/\x.ob.wf
def TK:Ct:=YJ (.bo true)
def gO (L M:List Obj):Bool:=decide (L=M)
def pQ (L M:List Obj) (g:Int):Prop:=0<=g/\g<=(ai L:Int)/\g<=(ai M:Int)/\∀j:Nat,(j:Int)<g->aj L j free=aj M j free
def Xf:Ct:=WG tS eS fun L M=> .bo (gO L M)
def iT (L M:List Obj) (g:Int):List Int:=((List.range g.toNat).filter fun j=> !CR (aj L j free) (aj M j free)).map Int.ofNat
def j4 (L M:List Obj):Bool:=bn L||bn M|| !decide ((ai L:Int)=(ai M:Int))
def dM (L M:List Obj):List Int:=iT L M (ai L:Int)
def lT (L:List Obj) (g:Int):List Obj:=L.take g.toNat
def qm (L:List Obj) (g:Int):Prop:=0<=g/\g<=(ai L:Int)
abbrev Yz:V:= .nl (.slice none 0 0)
abbrev tI:Nat:=3
def Ea (L:List Obj) (v:V) (r:List aK):Prop:=
 match v with
 | .nl p=>match p with
   | .pointer none=>bn L=true
   |_=>False
 | .lp j off=>match Fy r j with
   |some (t,e,M)=>if off==0&&t==tS&&e==eS&&Nat.ble 1 j then bn L=false/\M=L else False
   |none=>False
 |_=>False
def Qc (L M:List Obj) (v:V) (r:List aK):Prop:=
 match v with
 | .nl p=>match p with
   | .slice none 0 0=>j4 L M=true
   |_=>False
 | .sa j=>match ay r j with
   | .arr own esz l=>match own with
     |some e=>match l with
      | .it k l=>match k with
        | .i64=>if e==tI&&esz==1&&Nat.ble 2 j then j4 L M=false/\l=dM L M else False
        |_=>False
      |_=>False
     |none=>False
   |_=>False
 |_=>False
def Pk:kc:=fun args res K=>
 match args with
 | [a]=>match a with
   | .nl v=>match v with
     | .pointer none=>K jJ res
     |_=>False
   | .lp k off=>if off==0 then match cH res k with
     | .store t e L=>if t==tS&&e==eS then ai L<=1000/\(bn L=true->K jJ res)/\(bn L=false->K (.lp res.length 0) (res++ [.store tS eS L]))else False
     |_=>False
     else False
   |_=>False
 |_=>False
def Vl:kc:=fun args res K=>
 match args with
 | [a,b]=>match b with
   | .lp j off=>if off==0 then match cH res j with
     | .store t e M=>if t==tS&&e==eS then match a with
       | .nl v=>match v with
         | .pointer none=>K Yz res
         |_=>False
       | .lp k off'=>if off'==0&& !(k==j)then match cH res k with
         | .store t e L=>if t==tS&&e==eS then ai L<=1000/\(j4 L M=true->K Yz res)/\(j4 L M=false->K (.sa res.length) (res++ [.arr (some tI) 1 (.it .i64 (dM L M))]))else False
         |_=>False
         else False
       |_=>False
       else False
     |_=>False
     else False
   |_=>False
 |_=>False
def HT:Ct:=fun res nid xs=>match xs with
 | [a]=>match rS tS eS res a with
   |some (o,L)=>match o with
    |none=>some (none,.cb true,[])
    |some _=>some (none,.bo (bn L),[])
   |none=>none
 |_=>none
theorem ij {α:Type} (l:List α):bD (ai l)=(l.length:Int):=rfl
theorem mz {α:Type} (l:List α):((ai l:Nat):Int)=(l.length:Int):=rfl
def Zy:kc:=fun args res K=>
 match args with
 | [a]=>match a with
   | .sa k=>match cH res k with
     | .arr _ e l=>if e==163 then match l with
       | .ob l=>(fN l=false->K (.tp [jJ,.ci .i64 2]) res)/\(fN l=true->K (.tp [.lp res.length 0,.ci .i64 0]) (res++ [.store tS eS l]))
       |_=>False
       else False
     |_=>False
   |_=>False
 |_=>False
def QY:Ct:=mkA fun l=> .bo (fN l)
def Ji:Ct:=TF rK fun l k=> .bo (aU l k)
def Rk:Ct:=TF rK fun l k=> .key (ah l k)
def FG:Ct:=XI tS eS fun L=> .bo (bn L)
def ZY:Ct:=Js tS eS (rI .i64) fun L i=> .it .i64 (du L i)
def aad:Ct:=Js tS eS (rI .i64) fun L i=> .tp [.ob (aL L i),.it .i64 (du L i)]
def FY:Ct:=XI tS eS fun L=> .it .i64 (ak L)
def T7:Ct:=Js tS eS rK fun L k=> .tp [.ob (aa L k),.bo (aU L k)]
def Xp:Ct:=Js tS eS rK fun L k=> .key (ah L k)
theorem Il {n:Nat} (h:n<1000):sT n 8:=by unfold sT;simp only[maxLen];omega
theorem LK {L:List Obj} {g:Int} (h0:0<=g) (h1:g<(L.length:Int)):jh (lT L g) (aj L g.toNat free)=lT L (g+1):=by
 unfold jh lT aj;rw[show(g+1).toNat=g.toNat+1 by omega,List.take_add_one,aa7,List.getElem?_eq_getElem (by omega)];rfl
theorem OX {L:List Obj} {g:Int} (h:(L.length:Int)<=g):lT L g=L:=by unfold lT;rw[List.take_of_length_le (by omega)]
theorem Me {L:List Obj} {g:Int}:ai (lT L g)<=g.toNat:=by unfold ai lT;rw[List.length_take];omega
theorem OC {L M:List Obj} {g:Int}:ai (iT L M g)<=g.toNat:=by
 unfold ai iT;rw[List.length_map];exact Nat.le_trans (List.length_filter_le _ _) (by rw[List.length_range];omega)
theorem Oi {L M:List Obj} {g:Int} (h0:0<=g) (h:(!CR (aj L g.toNat free) (aj M g.toNat free))=true):jh (iT L M g) g=iT L M (g+1):=by
 unfold jh iT;rw[show(g+1).toNat=g.toNat+1 by omega,List.range_succ,List.filter_append,List.map_append]
 simp only[List.filter_cons,h,if_true,List.filter_nil,List.map_cons,List.map_nil];congr 2
 show g=((g.toNat:Nat):Int)
 omega
theorem Sz {L M:List Obj} {g:Int} (h0:0<=g) (h:(!CR (aj L g.toNat free) (aj M g.toNat free))=false):iT L M g=iT L M (g+1):=by
 unfold iT;rw[show(g+1).toNat=g.toNat+1 by omega,List.range_succ,List.filter_append,List.map_append]
 simp only[List.filter_cons,h,Bool.false_eq_true,if_false,List.filter_nil,List.map_nil,List.append_nil]
theorem sG:bn []=true:=rfl
theorem vZ {L:List Obj}:bn L=true↔L= []:=by
 unfold bn ai;simp[List.length_eq_zero_iff]
theorem sN (i:Int):du [] i=1:=rfl
theorem OA {L:List Obj} (h:bn L=false) (i:Int):du L i=if i<0\/(L.length:Int)<=i then 4 else 0:=by
 have:L≠ []:=fun e=>by rw[e]at h;simp[sG]at h
 unfold du ai;rw[aa8 (by simpa[List.length_eq_zero_iff]using this)]
theorem lE {L:List Obj} {i:Int}:du L i=0↔0<=i/\i<(L.length:Int):=by
 unfold du ai;split
 ·omega
 ·split<;>omega
theorem A4 (L:List Obj) (k:Key):((!aZ k)=true->free=aa L k/\false=aU L k)/\
  ((!aZ k)=false->
    ((!decide (du L (cw k)=0)|| !cG k (aL L (cw k)))=true->
      free=aa L k/\false=aU L k)/\
      ((!decide (du L (cw k)=0)|| !cG k (aL L (cw k)))=false->
        aL L (cw k)=aa L k/\true=aU L k)):=by
 have fin:∀b,aU L k=b->(b=false->free=aa L k)/\b=aU L k:=fun b h=>⟨fun hb=>by unfold aa;rw[h,hb];rfl,h.symm⟩
 refine⟨fun h=>?_,fun h=>?_⟩
 ·have h:aZ k=false:=by simpa using h
  have:=fin false (by unfold aU;rw[h];rfl)
  exact⟨this.1 rfl,this.2⟩
 ·have h:aZ k=true:=by simpa using h
  have ho:cw k=k.oid:=by unfold cw;rw[aa9 h]
  rw[ho];by_cases hh:du L k.oid=0
  ·have hg:aL L k.oid=aj L k.oid.toNat free:=by unfold aL;rw[aa9 hh]
   rw[hg];have e:aU L k=cG k (aj L k.oid.toNat free):=by unfold aU;simp[h,hh]
   refine⟨fun hc=>?_,fun hc=>?_⟩
   ·have hc:cG k (aj L k.oid.toNat free)=false:=by simpa[hh]using hc
    have:=fin false (by rw[e,hc])
    exact⟨this.1 rfl,this.2⟩
   ·have hc:cG k (aj L k.oid.toNat free)=true:=by simpa[hh]using hc
    have:=fin true (by rw[e,hc])
    refine⟨?_,this.2⟩;unfold aa;rw[e,hc];rfl
  ·have:=fin false (by unfold aU;simp[hh])
   exact⟨fun _=>⟨this.1 rfl,this.2⟩,fun hc=>by simp[hh]at hc⟩
theorem Fl (L:List Obj) (k:Key):((bn L|| !decide (bw k=0))=true->void=ah L k)/\
  ((bn L|| !decide (bw k=0))=false->
    ((aZ k&& !aU L k)=true->void=ah L k)/\((aZ k&& !aU L k)=false->k=ah L k)):=by
 have hc:(!decide (bw k=0))= !aV k:=by unfold bw;cases aV k<;>simp
 rw[hc];unfold ah;refine⟨fun h=>?_,fun h=>⟨fun h2=>?_,fun h2=>?_⟩⟩
 ·rw[aa9];simp only[h,Bool.true_or]
 ·rw[aa9];simp only[h2,Bool.or_true]
 ·rw[aa8];simp only[h,h2];simp
theorem sK {n:Int}:jC n=true↔1<=n/\n<=64:=by simp[jC]
theorem Tf {g:Int} (h:0<=g):jh (mC g) free=mC (g+1):=by
 unfold jh mC;rw[show(g+1).toNat=g.toNat+1 by omega,List.replicate_succ']
theorem HS {i:Int} {o:Obj}:fJ [] i o=1:=by unfold fJ;rw[sN];rfl
theorem Rw {L:List Obj} {i:Int} {o:Obj} (h:du L i≠0):fJ L i o=du L i/\cN L i o=L:=by
 unfold fJ cN;rw[aa8 h,aa8 (fun hh=>h hh.1)];exact⟨rfl,rfl⟩
theorem Wp {L:List Obj} {i:Int} {o:Obj} (h:du L i=0) (h2:c8 o (ai L:Int)≠0):fJ L i o=c8 o (ai L:Int)/\cN L i o=L:=by
 unfold fJ cN;rw[aa9 h,aa8 (fun hh=>h2 hh.2)];exact⟨rfl,rfl⟩
theorem uB {L:List Obj} {i:Int} {o:Obj} (h:du L i=0) (h2:c8 o (ai L:Int)=0):fJ L i o=0/\cN L i o=cA L i.toNat o:=by
 unfold fJ cN;rw[aa9 h,aa9 ⟨h,h2⟩];exact⟨h2,rfl⟩
theorem OJ {c:Bool} {M:List Obj} (hn:c=false) {v:V} {r:List aK} (h:Va c M v r):xa (.tp [jJ,.ci .i64 2]) v []:=by
 unfold Va at h;split at h
 ·split at h
  ·split at h
   ·split at h
    ·exact Ta (dD h.2)
    ·exact h.elim
   ·split at h
    ·split at h
     ·rw[hn]at h;simp at h
     ·exact h.elim
    ·exact h.elim
   ·exact h.elim
  ·exact h.elim
 ·exact h.elim
theorem UG {c:Bool} {M:List Obj} (hn:c=true) {v:V} {r:List aK} (h:Va c M v r):∃j b,v= .tp [.lp j 0,b]/\xa (.ci .i64 0) b []/\Fy r j=some (tS,eS,M):=by
 unfold Va at h;split at h
 ·split at h
  ·split at h
   ·split at h
    ·rw[hn]at h;simp at h
    ·exact h.elim
   ·split at h
    ·rename_i hst;split at h
     ·rename_i hc;simp only[aa2,aa4]at hc;obtain⟨⟨rfl,rfl⟩,rfl⟩:=hc;obtain⟨_,h2,rfl⟩:=h;exact⟨_,_,rfl,dD h2,hst⟩
     ·exact h.elim
    ·exact h.elim
   ·exact h.elim
  ·exact h.elim
 ·exact h.elim
theorem Hk {c:Bool} {M:List Obj} (hn:c=true) {v:V} {r:List aK} (h:Va c M v r):∃j r',Fy r j=some (tS,eS,M)/\(r'=r\/uD r j=some r')/\ay r' j= .store tS eS M/\∀(κ:Nat->Option Nat) (i:Nat),κ j=some i->jT κ v (.tp [.lp i 0,.ci .i64 0]):=by
 obtain⟨j,b,rfl,hb,hst⟩:=UG hn h
 have ht:∀(κ:Nat->Option Nat) (i:Nat),κ j=some i->jT κ (.tp [.lp j 0,b]) (.tp [.lp i 0,.ci .i64 0]):=fun κ i hi ρ2 ρ3 N N' hv hN hk=>by
  obtain⟨s1,s2,_⟩:=hb ρ2 N;refine⟨?_,hN j i hi hk.1,by simp[ok,bY],trivial⟩
  simp only[den,bB,(hv j i hi).1,s1]
 rcases Fu hst with h1|⟨r',h1,h2⟩
 ·exact⟨j,r,hst,.inl rfl,h1,ht⟩
 ·exact⟨j,r',hst,.inr h1,h2,ht⟩
theorem UD {x:V} {M:List Obj} {v:V} {r:List aK} (h:kSt x M v r):∃t,E8 r 0=some (tS,eS,t,M)/\xa x v r:=by
 unfold kSt at h;split at h
 ·rename_i hst;split at h
  ·rename_i hc;simp only[aa2,aa4]at hc;obtain⟨rfl,rfl⟩:=hc;obtain⟨h1,rfl⟩:=h;exact⟨_,hst,dD h1⟩
  ·exact h.elim
 ·exact h.elim
theorem aaV {P:Program} {f:Nat} {rest:List V} {res:List aK} {K KP:V->List aK->Prop} {k:Nat} {L M:List Obj} {x:V} (hr:ay res k= .store tS eS L) (hid:lf rest=true) (hx:ke x=true)
  (h:(∀o∈L,o.wf)->L.length<=9223372036854775807->an P f (.lp 0 0::rest) [.blk tS (.ag [.sa 1]),.obs eS 2 L,.gen 1] (kSt x M) (fun _ _=>False)) (hK:K x (bO res k (.store tS eS M))):an P f (.lp k 0::rest) res K KP:=by
 refine an.Di hr hid hx ?_ hK;refine an.fact (k:=0) rfl fun w1 w2=>?_
 refine an.kD (k:=0) rfl ?_;refine an.shut (h w1 w2) fun v r hv=>?_
 obtain⟨t,h1,h2⟩:=UD hv;obtain⟨r',g1,g2⟩:=BV h1;exact .inr ⟨0,r',g1,fun J K=>h2 J K,g2⟩
theorem fR {l:List Obj}:fN l=true↔1<=l.length/\l.length<=64/\∀i,i<l.length->bP (aj l i free) (l.length:Int)=true:=by
 unfold fN ai;simp only[aa2,aa3,List.all_eq_true,List.mem_range,and_assoc]
theorem vK {l:List Obj} (h:¬(1<=l.length/\l.length<=64/\∀i,i<l.length->bP (aj l i free) (l.length:Int)=true)):fN l=false:=by
 cases hr:fN l with
 |false=>rfl
 |true=>exact absurd (fR.1 hr) h
theorem yh {l:List Obj} {g:Int} (h1:g<=(l.length:Int)):(kf l g).length=l.length:=by
 unfold kf;simp only[List.length_append,List.length_take,List.length_replicate];omega
theorem MQ {l:List Obj}:mC (l.length:Int)=kf l 0:=by unfold mC kf;simp
theorem Ro {l:List Obj} {g:Int} (h:(l.length:Int)<=g):kf l g=l:=by
 unfold kf;rw[List.take_of_length_le (by omega),show l.length-g.toNat=0 by omega];simp
theorem RD {l:List Obj} {g:Int} (h0:0<=g) (h1:g<(l.length:Int)):cA (kf l g) g.toNat (aj l g.toNat free)=kf l (g+1):=by
 unfold cA kf aj;obtain⟨n,rfl⟩:=Int.eq_ofNat_of_zero_le h0;have hn:n<l.length:=by omega
 have e1:((n:Int)+1).toNat=n+1:=by omega
 have e2:((n:Int)).toNat=n:=by omega
 rw[e1,e2];apply List.ext_getElem?
 intro i;rw[List.getElem?_set];have hlt:(List.take n l++List.replicate (l.length-n) free).length=l.length:=by simp;omega
 have htl:(List.take n l).length=n:=by simp;omega
 have htl1:(List.take (n+1) l).length=n+1:=by simp;omega
 by_cases hi:n=i
 ·subst hi;rw[aa9 rfl,aa9 (by rw[hlt];exact hn),List.getElem?_append_left (by rw[htl1];omega),List.getElem?_take,aa9 (by omega),aa7,List.getElem?_eq_getElem hn];rfl
 ·rw[aa8 hi];by_cases hl:i<n
  ·rw[List.getElem?_append_left (by rw[htl];exact hl),List.getElem?_append_left (by rw[htl1];omega),List.getElem?_take,List.getElem?_take,aa9 hl,aa9 (by omega)]
  ·rw[List.getElem?_append_right (by rw[htl];omega),List.getElem?_append_right (by rw[htl1];omega),htl,htl1,List.getElem?_replicate,List.getElem?_replicate]
   by_cases hb:i<l.length
   ·rw[aa9 (by omega),aa9 (by omega)]
   ·rw[aa8 (by omega),aa8 (by omega)]
theorem XQ {l:List Obj} {g:Int} (h0:0<=g) (h1:g<(l.length:Int)) (x:Obj):fJ (kf l g) g x=c8 x (l.length:Int):=by
 have hh:du (kf l g) g=0:=lE.2 (by rw[yh (by omega)];exact⟨h0,h1⟩)
 unfold fJ ai;rw[aa9 hh,yh (by omega)]
theorem Rd {l:List Obj} {g:Int} (h0:0<=g) (h1:g<(l.length:Int)) (hx:c8 (aj l g.toNat free) (l.length:Int)=0):cN (kf l g) g (aj l g.toNat free)=kf l (g+1):=by
 have hh:du (kf l g) g=0:=lE.2 (by rw[yh (by omega)];exact⟨h0,h1⟩)
 unfold cN ai;rw[aa9 ⟨hh,by rw[yh (by omega)];exact hx⟩]
 exact RD h0 h1
theorem tA (o:Obj) (n:Int):(c8 o n=0/\bP o n=true)\/(c8 o n=2/\bP o n=false):=by
 unfold c8;cases bP o n<;>simp
theorem k9 (k:Key):(aZ k=true/\bd k=k.oid/\0<=k.oid)\/(aZ k=false/\bd k= -1):=by
 have h:bd k=if aZ k then k.oid else -1:=rfl
 cases hn:aZ k
 ·exact .inr ⟨rfl,by rw[h,hn];rfl⟩
 ·refine .inl ⟨rfl,by rw[h,hn];rfl,?_⟩
  unfold aZ at hn;simp only[aa2]at hn;have:=hn.1;simp only[aV,fX,hn.2,if_true,aa2,aa3]at this;omega
theorem Fa (l:List Obj) (k:Key) (hl:l.length<=9223372036854775807):((decide (0<=bd k)&&decide (bd k<bD (ai l)))=true->aF IntKind.i64 (bD (ai l)-1))/\
  ((decide (0<=bd k)&&decide (bd k<bD (ai l)))=true->
    0<=lQ (bd k) (bD (ai l)-1)/\lQ (bd k) (bD (ai l)-1)< ↑(ai l))/\
    ((decide (0<=bd k)&&decide (bd k<bD (ai l)))=true->
      (lQ (bd k) (bD (ai l)-1)).toNat<ai l)/\
      (decide (0<=bd k)&&decide (bd k<bD (ai l))&&
        cG k (aj l (lQ (bd k) (bD (ai l)-1)).toNat free))=
       aU l k:=by
 unfold bD ai
 have hm:0<=bd k->bd k<(l.length:Int)->lQ (bd k) ((l.length:Int)-1)=bd k:=fun h1 h2=>by
  unfold lQ;rw[aa8 (by omega)]
 simp only[aa2,aa3];refine⟨fun h=>by simp only[aF,bY];omega,fun h=>by rw[hm h.1 h.2];exact h,fun h=>by rw[hm h.1 h.2];omega,?_⟩
 rcases k9 k with⟨h1,h2,h3⟩|⟨h1,h2⟩
 ·by_cases hh:k.oid<(l.length:Int)
  ·rw[hm (by omega) (by omega),h2]
   have h0:du l k.oid=0:=lE.2 ⟨h3,hh⟩;unfold aU;simp[h1,h0,h3,hh]
  ·have h0:¬du l k.oid=0:=fun h=>hh (lE.1 h).2
   unfold aU;rw[h2];simp[h0,hh]
 ·unfold aU;simp[h1,h2]
theorem J5 (l:List Obj) (k:Key):((decide (bD (ai l)=0)|| !decide (bw k=0)||decide (0<=bd k)&& !aU l k)=true->void=ah l k)/\
  ((decide (bD (ai l)=0)|| !decide (bw k=0)||decide (0<=bd k)&& !aU l k)=false->k=ah l k):=by
 have hc:(!decide (bw k=0))= !aV k:=by unfold bw;cases aV k<;>simp
 have hd:decide (0<=bd k)=aZ k:=by
  rcases k9 k with⟨h1,h2,h3⟩|⟨h1,h2⟩
  ·rw[h1,h2];simpa using h3
  ·rw[h1,h2];simp
 have he:decide (bD (ai l)=0)=bn l:=by
  unfold bn bD;rw[decide_eq_decide];omega
 rw[hc,hd,he];unfold ah;exact⟨fun h=>by rw[h];rfl,fun h=>by rw[h];rfl⟩
theorem yx {l:List Obj} {k:Key} (h:aU l k=true):0<=bd k/\bd k<(l.length:Int)/\aa l k=aj l (bd k).toNat free:=by
 have h':=h;unfold aU at h;simp only[aa2,aa3]at h;have hb:=lE.1 h.1.2;rcases k9 k with⟨h1,h2,h3⟩|⟨h1,h2⟩
 ·rw[h2];exact⟨hb.1,hb.2,by unfold aa;rw[h',aa9 rfl]⟩
 ·rw[h1]at h;simp at h
theorem rP {L M:List Obj} (h:L.length=M.length) (h2:∀j:Nat,j<L.length->aj L j free=aj M j free):L=M:=by
 apply List.ext_getElem h
 intro i h3 h4;have:=h2 i h3;unfold aj at this;simpa[aa7,h3,h4]using this
theorem Pw {L M:List Obj} {g:Int} (hg:pQ L M g) (hge:(ai L:Int)<=g):(decide (g=bD (ai M))&&decide (ak L=g))=gO L M:=by
 obtain⟨g0,g1,g2,g3⟩:=hg;have e:g=(L.length:Int):=by unfold ai at *;omega
 subst e;unfold gO ak bD ai;cases hd:decide (L=M)with
 |true=>
  have:=aa6 hd;subst this;simp
 |false=>
  have hne:=aa5 hd;simp only[decide_true,Bool.and_true,decide_eq_false_iff_not];intro hl;exact hne (rP (by omega) fun j hj=>g3 j (by omega))
end Go.Sx
namespace Go.Proofs.YtlblcfaclmpekaaGreat
open Go.Sx
theorem LH:
 true=bn []:=by
 rfl
theorem KN (L:List Sx.Obj):
 decide (bD (ai L)=0)=bn L:=by
 unfold bn bD ai;rw[decide_eq_decide];omega
theorem pV:cq Tryz.prog 42 FG:=
 Ly (fun _=>rfl) (ba (inl:=bx) (ann:=aQ) aq LH (by kernel_rfl)) (fun L _ _=>ba (inl:=bx) (ann:=aQ) aq (KN L) (by kernel_rfl))
theorem SN (i:Int):
 (bn []=true->1=du [] i)/\
  (bn []=false->((!decide (i<0))=true->False)/\((!decide (i<0))=false->4=du [] i)):=by
 exact⟨fun _=>rfl,fun h=>by simp[sG]at h⟩
theorem Sb (L:List Sx.Obj) (i:Int):
 (bn L=true->1=du L i)/\
  (bn L=false->
   ((decide (i<0)||decide (bD (ai L)<=i))=true->4=du L i)/\
     ((decide (i<0)||decide (bD (ai L)<=i))=false->0=du L i)):=by
 refine⟨fun h=>?_,fun h=>?_⟩
 ·rw[vZ.1 h];rfl
 ·rw[OA h];unfold bD ai;refine⟨fun h1=>?_,fun h1=>?_⟩
  ·simp only[Bool.or_eq_true,aa3]at h1;rw[aa9 h1]
  ·simp only[Bool.or_eq_false_iff,decide_eq_false_iff_not]at h1;rw[aa8 (by omega)]
theorem zR:cq Tryz.prog 45 ZY:=
 yi (gi .i64) (fun _ _=>rfl) (fun x _=>ba (inl:=bx) (ann:=aQ) (ae pV aq) (SN x) (by kernel_rfl)) (fun L x _ _ _=>ba (inl:=bx) (ann:=aQ) (ae pV aq) (Sb L x) (by kernel_rfl)) fun _=>rfl
theorem Qw:
 (bn []=true->0=ak [])/\(bn []=false->False):=by
 exact⟨fun _=>rfl,fun h=>by simp[sG]at h⟩
theorem P0 (L:List Sx.Obj):
 (bn L=true->0=ak L)/\(bn L=false->bD (ai L)=ak L):=by
 exact⟨fun h=>by rw[vZ.1 h];rfl,fun _=>rfl⟩
theorem bC:cq Tryz.prog 36 FY:=
 Ly (fun _=>rfl) (ba (inl:=bx) (ann:=aQ) (ae pV aq) Qw (by kernel_rfl)) (fun L _ _=>ba (inl:=bx) (ann:=aQ) (ae pV aq) (P0 L) (by kernel_rfl))
theorem Uq (i:Int):
 ((!decide (du [] i=0))=true->free=aL [] i/\du [] i=du [] i)/\
   ((!decide (du [] i=0))=false->False):=by
 exact⟨fun _=>⟨rfl,rfl⟩,fun h=>by simp[sN]at h⟩
theorem Q6 (L:List Sx.Obj) (i:Int):
 ((!decide (du L i=0))=true->free=aL L i/\du L i=du L i)/\
   ((!decide (du L i=0))=false->
     (0<=i/\i< ↑(ai L))/\i.toNat<ai L/\i.toNat<ai L/\aj L i.toNat free=aL L i/\0=du L i):=by
 refine⟨fun h=>⟨?_,rfl⟩,fun h=>?_⟩
 ·unfold aL;rw[aa8 (by simpa using h)]
 ·have h:du L i=0:=by simpa using h
  have hb:=lE.1 h;unfold aL ai;rw[aa9 h,h];exact⟨hb,by omega,by omega,rfl,rfl⟩
theorem ga:cq Tryz.prog 25 aad:=
 yi (gi .i64) (fun _ _=>rfl) (fun x _=>ba (inl:=bx) (ann:=aQ) (ae zR aq) (Uq x) (by kernel_rfl)) (fun L x _ _ _=>ba (inl:=bx) (ann:=aQ) (ae zR aq) (Q6 L x) (by kernel_rfl)) fun _=>rfl
theorem JG (k:Key):
 aba (!aZ k) (free=aa [] k/\false=aU [] k) (aba (!decide (du [] (cw k)=0)|| !cG k (aL [] (cw k))) (free=aa [] k/\false=aU [] k) (aL [] (cw k)=aa [] k/\true=aU [] k)):=by
 delta aba
 exact A4 [] k
theorem JX (L:List Sx.Obj) (k:Key):
 aba (!aZ k) (free=aa L k/\false=aU L k) (aba (!decide (du L (cw k)=0)|| !cG k (aL L (cw k))) (free=aa L k/\false=aU L k) (aL L (cw k)=aa L k/\true=aU L k)):=by
 delta aba
 exact A4 L k
theorem bQ:cq Tryz.prog 26 T7:=
 yi gH (fun _ _=>rfl) (fun x _=>ba (inl:=bx) (ann:=aQ) (ae dH (ae ga (ae yW aq))) (JG x) (by kernel_rfl)) (fun L x _ _ _=>ba (inl:=bx) (ann:=aQ) (ae dH (ae ga (ae yW aq))) (JX L x) (by kernel_rfl)) fun _=>rfl
theorem WB (n:Int):
 aba (decide (n<1)||decide (64<n)) (jC n=false/\True) ((∃g,Cc n g/\Value.pointer none=Value.pointer none/\n=n/\0=g/\[]=mC g)/\∀(g:Int),Cc n g->aba (decide (g<n)) (sT (ai (mC g)) 8/\aF IntKind.i64 (g+1)/\∃g',Cc n g'/\(n-g').toNat<(n-g).toNat/\Value.pointer none=Value.pointer none/\n=n/\g+1=g'/\jh (mC g) free=mC g') (jC n=true/\True/\mC g=mC n)):=by
 delta aba
 refine⟨fun h=>⟨?_,trivial⟩,fun h=>⟨⟨0,?_,rfl,rfl,rfl,rfl⟩,fun g hg=>⟨fun hlt=>?_,fun hge=>?_⟩⟩⟩
 ·simp only[Bool.or_eq_true,aa3]at h;unfold jC;rw[Bool.and_eq_false_iff,decide_eq_false_iff_not,decide_eq_false_iff_not];omega
 ·simp only[Bool.or_eq_false_iff,decide_eq_false_iff_not]at h;exact⟨by omega,by omega⟩
 ·simp only[Bool.or_eq_false_iff,decide_eq_false_iff_not]at h;obtain⟨g0,g1⟩:=hg;have hlt:=aa6 hlt;refine⟨?_,?_,g+1,⟨by omega,by omega⟩,by omega,rfl,rfl,rfl,Tf g0⟩
  ·unfold sT ai mC;simp only[List.length_replicate,maxLen];omega
  ·simp only[aF,bY];omega
 ·simp only[Bool.or_eq_false_iff,decide_eq_false_iff_not]at h;obtain⟨g0,g1⟩:=hg;have hge:=aa5 hge;exact⟨sK.2 (by omega),trivial,by rw[show g=n by omega]⟩
theorem Nc (n:Int):an Tryz.prog 28 [.it .i64 n] [] (aaZ n) (fun _ _=>False):=ba (inl:=bx) (ann:=(iv [(28,5,lpB [2,3,4,13] (fun g=> [(14,.it .i64 g)]) 0 tS eS mC (Cc n) n)])) aq (WB n) (by kernel_rfl)
theorem KI:kL Tryz.prog 28 Vp:=by
 intro args res K KP h;unfold Vp at h;split at h
 ·split at h
  ·rename_i n hn;refine an.args (fc.rd (gi .i64) hn fc.nil) ?_;cases hb:jC n with
   |false=>exact an.pure rfl rfl ((Nc n).mono (fun v r hv=>OJ hb hv) fun _ _ h=>h) (h.1 hb)
   |true=>
    refine an.Uk (F:=fun j=> .tp [.lp j 0,.ci .i64 0]) rfl ?_ (h.2 hb)
    refine an.shut (Nc n) fun v r hv=>?_
    obtain⟨j,r',_,h1,h2,h3⟩:=Hk hb hv;rcases h1 with rfl|h1
    ·exact .inl ⟨j,h2,h3⟩
    ·exact .inr ⟨j,r',h1,j,h2,h3⟩
  ·exact h.elim
 ·exact h.elim
theorem SX (i:Int) (o:Sx.Obj):
 ((!decide (du [] i=0))=true->du [] i=fJ [] i o)/\((!decide (du [] i=0))=false->False):=by
 refine⟨fun _=>?_,fun h=>by simp[sN]at h⟩
 rw[HS,sN]
theorem Sj (i:Int) (o:Sx.Obj):an Tryz.prog 30 [jJ,.it .i64 i,.ob o] [] (oq (.it .i64 (fJ [] i o))) (fun _ _=>False):=ba (inl:=bx) (ann:=aQ) (ae zR (ae Ck aq)) (SX i o) (by kernel_rfl)
theorem TQ (L:List Sx.Obj) (i:Int) (o:Sx.Obj):
 aba (!decide (du L i=0)) (du L i=fJ L i o/\L=cN L i o) (aba (!decide (c8 o (bD (ai L))=0)) (c8 o (bD (ai L))=fJ L i o/\L=cN L i o) ((0<=i/\i< ↑(ai L))/\i.toNat<ai L/\0=fJ L i o/\cA L i.toNat o=cN L i o)):=by
 delta aba
 refine⟨fun h=>?_,fun h=>⟨fun h2=>?_,fun h2=>?_⟩⟩
 ·obtain⟨a,b⟩:=Rw (o:=o) (show du L i≠0 by simpa using h)
  rw[a,b];exact⟨rfl,rfl⟩
 ·obtain⟨a,b⟩:=Wp (o:=o) (show du L i=0 by simpa using h) (show c8 o (ai L:Int)≠0 by unfold bD at h2;simpa using h2)
  rw[a,b];exact⟨rfl,rfl⟩
 ·have h:=(show du L i=0 by simpa using h)
  have hb:=lE.1 h;obtain⟨a,b⟩:=uB (o:=o) h (show c8 o (ai L:Int)=0 by unfold bD at h2;simpa using h2)
  rw[a,b];exact⟨hb,by unfold ai;omega,rfl,rfl⟩
theorem Rj (L:List Sx.Obj) (i:Int) (o:Sx.Obj):an Tryz.prog 30 [.lp 0 0,.it .i64 i,.ob o] [.blk tS (.ag [.sa 1]),.obs eS 2 L,.gen 1] (kSt (.it .i64 (fJ L i o)) (cN L i o)) (fun _ _=>False):=ba (inl:=bx) (ann:=aQ) (ae zR (ae Ck aq)) (TQ L i o) (by kernel_rfl)
theorem RH (i:Int) (o:Sx.Obj):
 ((!decide (du [] i=0))=true->du [] i=fJ [] i o)/\
   ((!decide (du [] i=0))=false->
     ((!decide (c8 o 0=0))=true->c8 o 0=fJ [] i o)/\((!decide (c8 o 0=0))=false->False)):=by
 refine⟨fun _=>?_,fun h=>by simp[sN]at h⟩
 rw[HS,sN]
theorem QQ (i:Int) (o:Sx.Obj):an Tryz.prog 30 [.lp 0 0,.it .i64 i,.ob o] [.ro (.blk tS (.ag [.nl (.slice none 0 0)]))] (oq (.it .i64 (fJ [] i o))) (fun _ _=>False):=ba (inl:=bx) (ann:=aQ) (ae zR (ae Ck aq)) (RH i o) (by kernel_rfl)
theorem dz:kL Tryz.prog 30 Vm:=by
 intro args res K KP h;unfold Vm at h;split at h
 ·split at h
  ·rename_i i hi;split at h
   ·rename_i o ho;refine an.args (fc.jH (fc.rd (gi .i64) hi (fc.rd zr ho fc.nil))) ?_;split at h
    ·split at h
     ·exact an.pure rfl rfl ((Sj i o).mono (fun _ _ h=>dD h) fun _ _ h=>h) h
     ·exact h.elim
    ·split at h
     ·rename_i hoff;have hoff:=aa4.1 hoff;subst hoff;split at h
      ·rename_i hr;split at h
       ·rename_i hc;simp only[aa2,aa4]at hc;obtain⟨rfl,rfl⟩:=hc;exact aaV hr rfl rfl (fun _ _=>Rj _ i o) h
       ·exact h.elim
      ·rename_i hr;split at h
       ·rename_i hc;simp only[aa2,aa4]at hc;obtain⟨rfl,hz⟩:=hc;have:=Ae hz;subst this;refine an.Lu (r0:= .blk tS (.ag [.nl (.slice none 0 0)])) (by unfold cH;rw[hr]) (by simp) (fun κ=>rfl) rfl rfl ((QQ i o).mono (fun _ _ h=>dD h) fun _ _ h=>h) h
       ·exact h.elim
      ·exact h.elim
     ·exact h.elim
    ·exact h.elim
   ·exact h.elim
  ·exact h.elim
 ·exact h.elim
theorem Mv (l:List Sx.Obj) (hl:l.length<=9223372036854775807):
 aba (decide (bD (ai l)<1)||decide (64<bD (ai l))) (false=fN l) ((∃g,rJ l g/\false=false/\0=g/\l=l)/\∀(g:Int),rJ l g->aba (decide (g<bD (ai l))) ((0<=g/\g< ↑(ai l))/\g.toNat<ai l/\aba (!decide (c8 (aj l g.toNat free) (bD (ai l))=0)) (false=fN l) (aF IntKind.i64 (g+1)/\∃g',rJ l g'/\(bD (ai l)-g').toNat<(bD (ai l)-g).toNat/\false=false/\g+1=g'/\l=l)) (true=fN l)):=by
 delta aba
 refine⟨fun h=>?_,fun h=>⟨⟨0,⟨by omega,by omega,fun j hj=>by omega⟩,rfl,rfl,rfl⟩,fun g hg=>⟨fun hlt=>?_,fun hge=>?_⟩⟩⟩
 ·simp only[Bool.or_eq_true,aa3]at h;simp only[ij]at h;exact(vK fun hh=>by have h1:=hh.1;have h2:=hh.2.1;omega).symm
 ·obtain⟨g0,g1,g2⟩:=hg;have hlt:=aa6 hlt;unfold bD at *;refine⟨⟨g0,hlt⟩,by omega,fun hb=>(vK fun hh=>?_).symm,fun hb=>⟨?_,g+1,⟨by omega,by omega,fun j hj=>?_⟩,by omega,rfl,rfl,rfl⟩⟩
  ·have:=hh.2.2 g.toNat (by unfold ai at hlt;omega)
   unfold c8 ai at hb;rw[this]at hb;simp at hb
  ·simp only[aF,bY];unfold ai at *;omega
  ·by_cases e:(j:Int)<g
   ·exact g2 j e
   ·have:j=g.toNat:=by omega
    subst this;rcases tA (aj l g.toNat free) (ai l:Int)with⟨h1,h2⟩|⟨h1,h2⟩
    ·exact h2
    ·rw[h1]at hb;simp at hb
 ·obtain⟨g0,g1,g2⟩:=hg;have hge:=aa5 hge;have hle:=mz l;simp only[Bool.or_eq_false_iff,decide_eq_false_iff_not]at h;simp only[ij]at h hge;exact(fR.2 ⟨by omega,by omega,fun i hi=>g2 i (by omega)⟩).symm
theorem Pj:cq Tryz.prog 40 QY:=Vv (fun _=>rfl) fun l _ hl=>ba (inl:=bx) (ann:=(iv [(40,4,UO [0,2] (fun g=> [(3,.it .i64 g)]) (rJ l) (bD (ai l)))])) (ae N8 aq) (Mv l hl) (by kernel_rfl)
theorem Gg (l:List Sx.Obj) (k:Key) (hl:l.length<=9223372036854775807):
 ((decide (0<=bd k)&&decide (bd k<bD (ai l)))=true->aF IntKind.i64 (bD (ai l)-1))/\((decide (0<=bd k)&&decide (bd k<bD (ai l)))=true->0<=lQ (bd k) (bD (ai l)-1)/\lQ (bd k) (bD (ai l)-1)< ↑(ai l))/\((decide (0<=bd k)&&decide (bd k<bD (ai l)))=true->(lQ (bd k) (bD (ai l)-1)).toNat<ai l)/\(decide (0<=bd k)&&decide (bd k<bD (ai l))&&cG k (aj l (lQ (bd k) (bD (ai l)-1)).toNat free))=aU l k:=by
 exact Fa l k hl
theorem me:cq Tryz.prog 72 Ji:=H7 gH (fun _ _=>rfl) (fun l k _ hl _=>ba (inl:=bx) (ann:=aQ) (ae np (ae GM aq)) (Gg l k hl) (by kernel_rfl)) fun _=>rfl
theorem aaw (l:List Sx.Obj) (hl:l.length<=9223372036854775807):
 true=true/\(jC (bD (ai l))=false->fN l=false/\True)/\(jC (bD (ai l))=true->(∃g,rJ l g/\Value.pointer none=Value.pointer none/\bD (ai l)=bD (ai l)/\0=g/\l=l/\mC (bD (ai l))=kf l g)/\∀(g:Int),rJ l g->aba (decide (g<bD (ai l))) ((0<=g/\g< ↑(ai l))/\g.toNat<ai l/\true=true/\aba (!decide (fJ (kf l g) g (aj l g.toNat free)=0)) (fN l=false/\fJ (kf l g) g (aj l g.toNat free)=2) (aF IntKind.i64 (g+1)/\∃g',rJ l g'/\(bD (ai l)-g').toNat<(bD (ai l)-g).toNat/\Value.pointer none=Value.pointer none/\bD (ai l)=bD (ai l)/\g+1=g'/\l=l/\cN (kf l g) g (aj l g.toNat free)=kf l g')) (fN l=true/\True/\kf l g=l)):=by
 delta aba
 refine⟨rfl,fun h=>⟨vK fun hh=>?_,trivial⟩,fun h=>⟨⟨0,⟨by omega,by omega,fun j hj=>by omega⟩,rfl,rfl,rfl,rfl,MQ⟩,fun g hg=>⟨fun hlt=>?_,fun hge=>?_⟩⟩⟩
 ·have:jC (bD (ai l))=true:=sK.2 (by unfold bD ai;omega)
  rw[this]at h;simp at h
 ·obtain⟨g0,g1,g2⟩:=hg;have hlt:=aa6 hlt;have h:=sK.1 h;have hle:=mz l;simp only[ij]at *;rw[XQ g0 hlt];refine⟨⟨g0,hlt⟩,by omega,trivial,fun hb=>⟨vK fun hh=>?_,?_⟩,fun hb=>⟨?_,g+1,⟨by omega,by omega,fun j hj=>?_⟩,by omega,trivial,trivial,rfl,trivial,Rd g0 hlt (by simpa using hb)⟩⟩
  ·have:=hh.2.2 g.toNat (by omega)
   unfold c8 at hb;rw[this]at hb;simp at hb
  ·rcases tA (aj l g.toNat free) (l.length:Int)with⟨h1,h2⟩|⟨h1,h2⟩
   ·rw[h1]at hb;simp at hb
   ·exact h1
  ·simp only[aF,bY];omega
  ·by_cases e:(j:Int)<g
   ·exact g2 j e
   ·have:j=g.toNat:=by omega
    subst this;rcases tA (aj l g.toNat free) (l.length:Int)with⟨h1,h2⟩|⟨h1,h2⟩
    ·exact h2
    ·rw[h1]at hb;simp at hb
 ·obtain⟨g0,g1,g2⟩:=hg;have hge:=aa5 hge;have h:=sK.1 h;have hle:=mz l;simp only[ij]at *;exact⟨fR.2 ⟨by omega,by omega,fun i hi=>g2 i (by omega)⟩,trivial,Ro (by omega)⟩
theorem UL (l:List Sx.Obj) (own:Option Nat):an Tryz.prog 41 [.sa 0] [.ro (.arr own 163 (.ob l))] (kOf l) (fun _ _=>False):=
 an.ZS (an.EY (k:=0) rfl fun _ hl=>(bj (inl:=bx) (ann:=(iv [(41,5,YD [0,2,3,4,5,18,19] (fun g=> [(20,.it .i64 g)]) 1 (fun g=> .store tS eS (kf l g)) (rJ l) (bD (ai l)))])) aq (aB KI (aB dz aD)) (aaw l hl) (by kernel_rfl):an Tryz.prog 41 [.sa 0] [.ro (.arr none 163 (.ob l))] (kOf l) (fun _ _=>False)))
theorem Z2:kL Tryz.prog 41 Zy:=by
 intro args res K KP h;unfold Zy at h;split at h
 ·split at h
  ·split at h
   ·rename_i hr;split at h
    ·rename_i he;have he:=aa4.1 he;subst he;split at h
     ·rename_i l;cases hb:fN l with
      |false=>exact an.Zb hr rfl rfl ((UL l _).mono (fun v r hv=>OJ hb (Ii hv).1) fun _ _ h=>h) (h.1 hb)
      |true=>
       refine an.MX (F:=fun j=> .tp [.lp j 0,.ci .i64 0]) hr rfl ?_ (h.2 hb)
       refine an.shut (UL l _) fun v r hv=>?_
       obtain⟨hv,h0⟩:=Ii hv;obtain⟨j,r',hs,h1,h2,h3⟩:=Hk hb hv
       have hj:1<=j:=by
        rcases Nat.eq_zero_or_pos j with rfl|hj
        ·rw[h0]at hs;simp at hs
        ·exact hj
       rcases h1 with rfl|h1
       ·exact .inl ⟨j,hj,h2,h3⟩
       ·exact .inr ⟨j,r',h1,j,hj,h2,h3⟩
     ·exact h.elim
    ·exact h.elim
   ·exact h.elim
  ·exact h.elim
 ·exact h.elim
end Go.Proofs.YtlblcfaclmpekaaGreat
namespace Go.Sx
def gU (r b:Int):Bool:=decide ((r.tdiv b).tmod 2=1)
def gz (r m g:Int):Int:=(if 2<=g/\(gU r 1||gU m 1)=true then 1 else 0)+(if 4<=g/\(gU r 2||gU m 2)=true then 2 else 0)+(if 8<=g/\(gU r 4||gU m 4)=true then 4 else 0)
def iz (r m:Int):Int:=gz r m 8
def kU (g:Int):Prop:=g=1\/g=2\/g=4\/g=8
def di (k:Key) (r:Int):Key:= {k with rights:=r}
def kN (k:Key):Key:=if k.kind=2 then di k (iz k.rights 3)else if k.kind=3 then di k 1 else if k.kind=1\/k.kind=8 then k else void
def iU (k:Key):Key:=if aV k then kN k else void
def Q5:Ct:=Sg (rI .i64) (rI .i64) fun r m=> .it .i64 (iz r m)
def SG:Ct:=QB rK fun k=> .key (kN k)
def LM:Ct:=QB rK fun k=> .tp [.key (iU k),.it .i64 (bw k)]
def aC (L:List Obj) (k:Key) (kind:Int) (c:Bool):Int:=if ai L=0 then 1 else if(!aU L k|| !decide (k.kind=kind))=true then 190 else if(c&& !decide (k.rights.tmod 4=0))=true then 191 else 0
def sJ (k:Key):Bool:=decide ((k.rights.tdiv 2).tmod 2=1)
def ju (L:List Obj) (o:Obj) (k:Key) (i:Int):Key:=if sJ k then kN (ah L (o.slots.at i.toNat))else ah L (o.slots.at i.toNat)
def dh (L:List Obj) (k:Key) (i:Int):Key:=ju L (aj L k.oid.toNat free) k i
def oK (k:Key) (i:Int):Prop:=0<=i/\i<16/\aV k=true
def oG (L:List Obj) (k:Key) (i:Int):Prop:=0<=i/\i<16/\0<=k.oid/\k.oid<(ai L:Int)
def kh (i:Int):Bool:=decide (0<=i)&&decide (i<16)
def bW (L:List Obj) (k:Key) (i:Int):Int:=if aC L k 2 false=0 then(if kh i then 0 else 4)else aC L k 2 false
def aJ (L:List Obj) (k:Key) (i:Int):Key:=if bW L k i=0 then dh L k i else void
def bJ (L:List Obj) (v:Key):Bool:=aV v&&decide (bd v<(ai L:Int))
def bk (L:List Obj) (k:Key) (i:Int) (v:Key):Int:=if aC L k 2 true=0 then(if kh i then(if bJ L v then 0 else 2)else 4)else aC L k 2 true
def cR (L:List Obj) (k:Key) (i:Int) (v:Key):Key:=if bk L k i v=0 then dh L k i else void
def eo (o:Obj) (s:cL):Obj:= {o with slots:=s}
def tE (L:List Obj) (k:Key) (s:cL):List Obj:=cA L k.oid.toNat (eo (aj L k.oid.toNat free) s)
def cB (L:List Obj) (k:Key) (i:Int) (v:Key):List Obj:=if bk L k i v=0 then tE L k ((aj L k.oid.toNat free).slots.put i.toNat (ah L v))else L
def fD (L:List Obj) (k:Key):List Obj:=if aC L k 2 true=0 then tE L k gV else L
def bS (L:List Obj) (t f:Key):Int:=if aC L t 2 true=0 then aC L f 2 false else aC L t 2 true
def dF (L:List Obj) (t f:Key) (g:Int):cL:=(List.range g.toNat).foldl (fun s (j:Nat)=>s.put j (dh L f (j:Int))) (aj L t.oid.toNat free).slots
def eT (L:List Obj) (t f:Key):List Obj:=if bS L t f=0 then tE L t (dF L t f 16)else L
def ar (L:List Obj):Prop:=fN L=true
def lz (g:Int):Prop:=0<=g/\g<=16
def kA:Arg Key:=D3 rK V.key
def iA:Arg Int:=D3 (rI .i64) (V.it .i64)
def bA:Arg Bool:=D3 toBool V.bo
def oA:Arg Obj:=D3 rO V.ob
def sA:Arg (Option (List Obj)):=stA tS eS
def Dx (o:Option (List Obj)):List Obj:=match o with
 |none=> []
 |some L=>L
def nB:ld (Obj×Option (List Obj)×Key×Unit):=bc oA (bc sA (bc kA gK))
def X8:Ct:=ti (bc (YG nB) (bc iA gK)) (fun x=>some (oK x.1.2.2.1 x.2.1)) fun x=> .key (ju (Dx x.1.2.1) x.1.1 x.1.2.2.1 x.2.1)
def Ur:Ct:=ti (bc As (bc kA (bc iA (bc bA gK)))) (fun _=>none) fun x=> .it .i64 (aC x.1 x.2.1 x.2.2.1 x.2.2.2.1)
def V7:Ct:=ti (bc As (bc kA (bc iA gK))) (fun x=>some (oG x.1 x.2.1 x.2.2.1)) fun x=> .key (dh x.1 x.2.1 x.2.2.1)
def aaB:Ct:=ti (bc As (bc kA gK)) (fun _=>none) fun x=> .bo (bJ x.1 x.2.1)
def Ya:Ct:=ti (bc sA (bc kA (bc iA gK))) (fun _=>none) fun x=> .tp [.key (aJ (Dx x.1) x.2.1 x.2.2.1),.it .i64 (bW (Dx x.1) x.2.1 x.2.2.1)]
def dI (L:List Obj) (i:Int):Prop:=0<=i/\i<(ai L:Int)/\ai L<=1000
def tO:Nat:=74
def WW:Ct:=Xy (bc As (bc iA (bc oA gK))) (fun x=>some (dI x.1 x.2.1)) (fun _ n=> .sa n) fun x _=> [.arr (some tO) 163 (.ob (cA x.1 (pH x.2.1) x.2.2.1))]
theorem uV {r g:Int} (hr:bY .i64 r) (hg:g=1\/g=2\/g=4\/g=8):bY .i64 (r.tdiv g):=by
 simp only[bY]at *;rcases Int.le_total 0 r with h|h
 ·rw[Int.tdiv_eq_ediv_of_nonneg h];rcases hg with rfl|rfl|rfl|rfl<;>omega
 ·obtain⟨s,rfl⟩:∃s,r= -s:=⟨-r,by omega⟩
  rw[Int.neg_tdiv,Int.tdiv_eq_ediv_of_nonneg (by omega)]
  rcases hg with rfl|rfl|rfl|rfl<;>omega
theorem pG (x:Int):bY .i64 (x.tmod 2):=by
 have h1:=Int.tmod_lt_of_pos x (show(0:Int)<2 by omega)
 have h2:=Int.lt_tmod_of_pos x (show(0:Int)<2 by omega)
 simp only[bY];omega
theorem Ez {r m g:Int}:0<=gz r m g/\gz r m g<=7:=by
 unfold gz;repeat' split
 all_goals omega
theorem MZ {r:Int} (h0:0<=r) (h1:r<=7):bm .or .i64 r 3=iz r 3:=by
 have:r=0\/r=1\/r=2\/r=3\/r=4\/r=5\/r=6\/r=7:=by omega
 rcases this with rfl|rfl|rfl|rfl|rfl|rfl|rfl|rfl<;>decide
theorem D2 {r:Int} (h0:0<=r) (h1:r<=1):bm .or .i64 r 1=1:=by
 have:r=0\/r=1:=by omega
 rcases this with rfl|rfl<;>decide
theorem je {k:Key} (h:aV k=true):0<=k.rights/\k.rights<=fq k.kind:=by
 simp only[aV,aa2,aa3]at h;omega
theorem pY:aV void=true:=by decide
theorem qg (L:List Obj) (k:Key):aV (ah L k)=true:=by
 unfold ah;split
 ·exact pY
 ·rename_i h;simp only[Bool.or_eq_true,not_or,Bool.not_eq_true,Bool.not_eq_false']at h;exact h.1.2
theorem EX (L:List Obj) (k:Key):iU (ah L k)=kN (ah L k):=by unfold iU;rw[qg,aa9 rfl]
theorem aaH {r:Int} (h0:0<=r) (h1:r<=7):decide (bm .and .i64 r 2=0)= !decide ((r.tdiv 2).tmod 2=1):=by
 have:r=0\/r=1\/r=2\/r=3\/r=4\/r=5\/r=6\/r=7:=by omega
 rcases this with rfl|rfl|rfl|rfl|rfl|rfl|rfl|rfl<;>decide
theorem QM {r:Int} (h0:0<=r) (h1:r<=7):decide (bm .and .i64 r 3=0)=decide (r.tmod 4=0):=by
 have:r=0\/r=1\/r=2\/r=3\/r=4\/r=5\/r=6\/r=7:=by omega
 rcases this with rfl|rfl|rfl|rfl|rfl|rfl|rfl|rfl<;>decide
theorem S4 (n:Int):fq n<=7:=by unfold fq;split<;>(try split)<;>omega
theorem pn {k:Key} (h:aV k=true):0<=k.rights/\k.rights<=7:=by
 have:=je h;have:=S4 k.kind;omega
theorem eg {L:List Obj} {k:Key} (h:aU L k=true):aV k=true/\0<=k.oid/\k.oid<(L.length:Int)/\aa L k=aj L k.oid.toNat free/\(aj L k.oid.toNat free).kind=gB k:=by
 have h':=h;unfold aU at h;simp only[aa2,aa3]at h;obtain⟨⟨h1,h2⟩,h3⟩:=h;have hb:=lE.1 h2;have hn:0<=bd k:=(yx h').1;simp only[cG,aa2,Bool.or_eq_true,aa3]at h3;refine⟨h3.1,hb.1,hb.2,by unfold aa;rw[h',aa9 rfl],?_⟩
 rcases h3.2 with h|h
 ·omega
 ·exact h.1.1
theorem Hl {L:List Obj} {o:Obj} {k:Key} {i:Int} (hq:oK k i):(0<=i/\i< ↑16)/\
  ((!decide (bm BinOp.and IntKind.i64 k.rights 2=0))=true->iU (ah L (o.slots.at i.toNat))=ju L o k i)/\
    ((!decide (bm BinOp.and IntKind.i64 k.rights 2=0))=false->ah L (o.slots.at i.toNat)=ju L o k i):=by
 obtain⟨h0,h1,h2⟩:=hq;have hr:=pn h2;rw[aaH hr.1 hr.2,EX];unfold ju sJ;refine⟨⟨h0,by omega⟩,fun h=>?_,fun h=>?_⟩
 ·rw[aa9 (by simpa using h)]
 ·rw[aa8 (by simpa using h)]
theorem gr {L:List Obj} {k:Key} {d:Int} {c:Bool} (h:aC L k d c=0):aU L k=true/\k.kind=d/\(c=true->k.rights.tmod 4=0):=by
 unfold aC at h;split at h
 ·omega
 ·split at h
  ·omega
  ·rename_i h2;simp only[Bool.or_eq_true,Bool.not_eq_true',decide_eq_false_iff_not,not_or,Bool.not_eq_false,Decidable.not_not]at h2;split at h
   ·omega
   ·rename_i h3;refine⟨h2.1,h2.2,fun hc=>?_⟩
    simpa[hc]using h3
theorem iF:mT kA:=sC gH (fun _=>rfl) fun v x h=>Zh h
theorem Pe:mT oA:=sC zr (fun _=>rfl) fun v x h=>by cases v<;>simp[rO]at h;rfl
theorem Ff:mT bA:=sC L7 (fun _=>rfl) fun v x h=>by cases v<;>simp[toBool]at h<;>rfl
theorem dN:mT iA:=sC (gi .i64) (fun _=>rfl) fun v x h=>by cases v<;>simp[rI,toInt]at h<;>rfl
theorem s5:mT sA:=Yd _ _
theorem aam:gS nB:=aA Pe (aA s5 (aA iF bV))
def B8 (x:V) (M:List Obj) (v:V) (r:List aK):Prop:=
 match ay r 0 with
 | .store t e L=>if t==tS&&e==eS then oq x v r/\L=M else False
 |_=>False
theorem IC {x:V} {M:List Obj} {v:V} {r:List aK} (h:B8 x M v r):xa x v r/\ay r 0= .store tS eS M:=by
 unfold B8 at h;split at h
 ·rename_i hr;split at h
  ·rename_i hc;simp only[aa2,aa4]at hc;obtain⟨rfl,rfl⟩:=hc;obtain⟨h1,rfl⟩:=h;exact⟨dD h1,hr⟩
  ·exact h.elim
 ·exact h.elim
def Jd {α:Type} (B:List V->Option α) (Q:List Obj->α->Prop) (F:List Obj->α->V) (M:List Obj->α->List Obj):kc:=fun args res K=>
 match args with
 |a::l=>match B l with
  |some x=>match a with
   | .nl v=>match v with
     | .pointer none=>K (F [] x) res
     |_=>False
   | .lp k off=>if off==0 then match ay res k with
     | .store t e L=>if t==tS&&e==eS then Q L x/\K (F L x) (bO res k (.store tS eS (M L x)))else False
     | .blk t c=>if t==tS&&Y9 c then K (F [] x) res else False
     |_=>False
     else False
   |_=>False
  |none=>False
 |_=>False
def zst:V:= .ag [.nl (.slice none 0 0)]
theorem nK {P:Program} {f:Nat} {α:Type} {B:List V->Option α} {m:α->List V} {Q:List Obj->α->Prop} {F:List Obj->α->V} {M:List Obj->α->List Obj} (hB:∀l x,B l=some x->fc l (m x)) (hid:∀x,lf (m x)=true) (hF:∀L x,ke (F L x)=true)
  (h0:∀x,an P f (jJ::m x) [] (oq (F [] x)) (fun _ _=>False)) (hz:∀x,an P f (.lp 0 0::m x) [.ro (.blk tS zst)] (oq (F [] x)) (fun _ _=>False))
  (h1:∀L x,Q L x->(∀o∈L,o.wf)->L.length<=9223372036854775807->an P f (.lp 0 0::m x) [.store tS eS L] (B8 (F L x) (M L x)) (fun _ _=>False)):kL P f (Jd B Q F M):=by
 intro args res K KP h;unfold Jd at h;split at h
 case h_2=>exact h.elim
 split at h
 case h_2=>exact h.elim
 rename_i x hx;refine an.args (fc.jH (hB _ _ hx)) ?_;split at h
 ·split at h
  ·exact an.pure (by simp only[lf,ke,Bool.true_and];exact hid x) (hF _ _) ((h0 x).mono (fun _ _ h=>dD h) fun _ _ h=>h) h
  ·exact h.elim
 ·split at h
  ·rename_i hoff;have hoff:=aa4.1 hoff;subst hoff;split at h
   ·rename_i hr;split at h
    ·rename_i hc;simp only[aa2,aa4]at hc;obtain⟨rfl,rfl⟩:=hc;refine an.Di hr (hid x) (hF _ _) (an.fact (k:=0) rfl fun w1 w2=>(h1 _ x h.1 w1 w2).mono (fun v r hv=>IC hv |> fun⟨a,b⟩=>⟨fun J K=>a J K,b⟩) fun _ _ h=>h) h.2
    ·exact h.elim
   ·rename_i hr;split at h
    ·rename_i hc;simp only[aa2,aa4]at hc;obtain⟨rfl,hz'⟩:=hc;have:=Ae hz';subst this;exact an.Lu (r0:= .blk tS zst) (by unfold cH;rw[hr];rfl) (by simp) (fun κ=>rfl) (hid x) (hF _ _) ((hz x).mono (fun _ _ h=>dD h) fun _ _ h=>h) h
    ·exact h.elim
   ·exact h.elim
  ·exact h.elim
 ·exact h.elim
def rdK (l:List V):Option Key:=match l with
 | [a]=>rK a
 |_=>none
def UH (l:List V):Option (Key×Key):=match l with
 | [a,b]=>match rK a with
   |some k=>match rK b with
    |some k'=>some (k,k')
    |none=>none
   |none=>none
 |_=>none
def Ov (l:List V):Option (Key×Int×Key):=match l with
 | [a,b,c]=>match rK a with
   |some k=>match rI .i64 b with
    |some i=>match rK c with
     |some k'=>some (k,i,k')
     |none=>none
    |none=>none
   |none=>none
 |_=>none
theorem O7:∀l x,rdK l=some x->fc l [.key x]:=fun l x h=>by
 unfold rdK at h;split at h
 ·exact fc.rd gH h fc.nil
 ·simp at h
theorem Hm:∀l x,UH l=some x->fc l [.key x.1,.key x.2]:=fun l x h=>by
 unfold UH at h;split at h
 ·split at h
  ·rename_i h1;split at h<;>simp only[aa0,reduceCtorEq]at h
   rename_i h2;subst h;exact fc.rd gH h1 (fc.rd gH h2 fc.nil)
  ·simp at h
 ·simp at h
theorem O4:∀l x,Ov l=some x->fc l [.key x.1,.it .i64 x.2.1,.key x.2.2]:=fun l x h=>by
 unfold Ov at h;split at h
 ·split at h
  ·rename_i h1;split at h
   ·rename_i h2;split at h<;>simp only[aa0,reduceCtorEq]at h
    rename_i h3;subst h;exact fc.rd gH h1 (fc.rd (gi .i64) h2 (fc.rd gH h3 fc.nil))
   ·simp at h
  ·simp at h
 ·simp at h
def tK:Nat:=44
def oU (g:Int):Nat:=(16-g).toNat
def X0:kc:=Jd Ov (fun L _=>ar L) (fun L x=> .tp [.key (cR L x.1 x.2.1 x.2.2),.it .i64 (bk L x.1 x.2.1 x.2.2)]) fun L x=>cB L x.1 x.2.1 x.2.2
def W4:kc:=Jd rdK (fun L _=>ar L) (fun L x=> .it .i64 (aC L x 2 true)) fun L x=>fD L x
def Wz:kc:=Jd UH (fun L _=>ar L) (fun L x=> .it .i64 (bS L x.1 x.2)) fun L x=>eT L x.1 x.2
theorem Lc {L:List Obj} {k:Key} {d:Int} {c:Bool} (h:(!decide (0<ak L))=true):aC L k d c=1:=by
 unfold aC;unfold ak at h;rw[aa9 (by simp at h;omega)]
theorem IL {L:List Obj} {k:Key} {d:Int} {c:Bool} (h:(!decide (0<ak L))=false) (h2:(!(aU L k&&decide (k.kind=d)))=true):aC L k d c=190:=by
 unfold aC;unfold ak at h;rw[aa8 (by simp at h;omega),aa9 (by simpa using h2)]
theorem nu {L:List Obj} {k:Key} {d:Int} (h2:(!(aU L k&&decide (k.kind=d)))=false):aU L k=true/\k.kind=d:=by simpa using h2
theorem VP {L:List Obj} {k:Key} {d:Int} (h:(!decide (0<ak L))=false) (h2:(!(aU L k&&decide (k.kind=d)))=false) (h3:(!decide (bm BinOp.and IntKind.i64 k.rights 3=0))=true):aC L k d true=191:=by
 have hr:=pn (eg (nu h2).1).1;rw[QM hr.1 hr.2]at h3;unfold aC;unfold ak at h;rw[aa8 (by simp at h;omega),aa8 (by simpa using h2),aa9 (by simpa using h3)]
theorem JA {L:List Obj} {k:Key} {d:Int} (h:(!decide (0<ak L))=false) (h2:(!(aU L k&&decide (k.kind=d)))=false) (h3:(!decide (bm BinOp.and IntKind.i64 k.rights 3=0))=false):aC L k d true=0:=by
 have hr:=pn (eg (nu h2).1).1;rw[QM hr.1 hr.2]at h3;unfold aC;unfold ak at h;rw[aa8 (by simp at h;omega),aa8 (by simpa using h2),aa8 (by simpa using h3)]
theorem HR {L:List Obj} {k:Key} {d:Int} (h:(!decide (0<ak L))=false) (h2:(!(aU L k&&decide (k.kind=d)))=false):aC L k d false=0:=by
 unfold aC;unfold ak at h;rw[aa8 (by simp at h;omega),aa8 (by simpa using h2),aa8 (by simp)]
def dC (n:Int) (k:Key):Prop:=aV k=true/\bd k<n
theorem N5 {n:Int} {k:Key}:jk 1 n k=true↔dC n k:=by simp[jk,dC]
theorem Pm (r:Int):0<=iz r 3/\iz r 3<=7:=Ez
theorem MR {n:Int} (hn:0<=n) {k:Key} (h:dC n k):dC n (kN k):=by
 obtain⟨h1,h2⟩:=h;have hv:dC n void:=⟨pY,by have:=mV.2;omega⟩
 unfold kN;split
 ·rename_i e;have hw:=Pm k.rights
  have h1':aV (di k (iz k.rights 3))=true:=by
   simp only[aV,di,e,aa2,aa3]at h1⊢;have:fq 2=7:=rfl;grind
  refine⟨h1',?_⟩;unfold bd at h2⊢;rw[h1'];rw[h1]at h2;exact h2
 ·split
  ·rename_i e
   have h1':aV (di k 1)=true:=by
    simp only[aV,di,e,aa2,aa3]at h1⊢;have:fq 3=1:=rfl;grind
   refine⟨h1',?_⟩;unfold bd at h2⊢;rw[h1'];rw[h1]at h2;exact h2
  ·split
   ·exact⟨h1,h2⟩
   ·exact hv
theorem o7 {L:List Obj} (hL:0<L.length) (k:Key):dC (L.length:Int) (ah L k):=by
 have hv:dC (L.length:Int) void:=⟨pY,by have:=mV.2;omega⟩
 unfold ah;split
 ·exact hv
 ·rename_i h;simp only[Bool.or_eq_true,not_or,Bool.not_eq_true,Bool.not_eq_false',Bool.and_eq_false_imp]at h;refine⟨h.1.2,?_⟩;rcases k9 k with⟨a,b,c⟩|⟨a,b⟩
  ·rw[b];exact(eg (h.2 a)).2.2.1
  ·omega
theorem UJ {L:List Obj} (hL:0<L.length) (k:Key) (i:Int):dC (L.length:Int) (dh L k i):=by
 unfold dh ju;split
 ·exact MR (by omega) (o7 hL _)
 ·exact o7 hL _
theorem yZ {o:Obj} {n:Int} {s:cL} (h:bP o n=true) (hk:o.kind=1) (hs:∀i,i<16->dC n (s.at i)):bP (eo o s) n=true:=by
 rw[dS]at h⊢;simp only[eo];obtain⟨a1,a2,a3,a4,a5,a6,a7,a8,a9,a10,a11⟩:=h;exact⟨a1,a2,a3,a4,a5,a6,a7,a8,a9,fun i hi=>by rw[hk];exact N5.2 (hs i hi),fun i hi=> .inl (.inl hk)⟩
theorem AL {L:List Obj} {k:Key} (h:aU L k=true) (h2:k.kind=2):(aj L k.oid.toNat free).kind=1:=by
 rw[(eg h).2.2.2.2];unfold gB;rw[aa8 (by have:=(yx h).1;omega),aa8 (by omega)]
theorem tJ {L:List Obj} {k:Key} (hL:ar L) (h:aU L k=true) (h2:k.kind=2):∀i,i<16->dC (L.length:Int) ((aj L k.oid.toNat free).slots.at i):=fun i hi=>by
 obtain⟨_,b2,b3,_⟩:=eg h;have:=(fR.1 hL).2.2 k.oid.toNat (by omega)
 have:=(dS.1 this).2.2.2.2.2.2.2.2.2.1 i hi;rw[AL h h2]at this;exact N5.1 this
theorem pk {L:List Obj} {k:Key} {s:cL} (hL:ar L) (h:aU L k=true) (h2:k.kind=2) (hs:∀i,i<16->dC (L.length:Int) (s.at i)):cN L k.oid (eo (aa L k) s)=tE L k s/\ar (tE L k s):=by
 obtain⟨b1,b2,b3,b4,_⟩:=eg h;have hr:=fR.1 hL;have ho:=yZ (hr.2.2 k.oid.toNat (by omega)) (AL h h2) hs
 refine⟨?_,?_⟩
 ·rw[b4];exact(uB (lE.2 ⟨b2,b3⟩) (ry ho).symm).2
 ·refine fR.2 ?_;unfold tE;have hl:(cA L k.oid.toNat (eo (aj L k.oid.toNat free) s)).length=L.length:=by simp[cA]
  rw[hl];refine⟨hr.1,hr.2.1,fun i hi=>?_⟩
  by_cases e:i=k.oid.toNat
  ·subst e;rw[show aj (cA L k.oid.toNat (eo (aj L k.oid.toNat free) s)) k.oid.toNat free=eo (aj L k.oid.toNat free) s by simp[aj,cA,aa7,hi]]
   exact ho
  ·rw[show aj (cA L k.oid.toNat (eo (aj L k.oid.toNat free) s)) i free=aj L i free by simp[aj,cA,aa7,List.getElem?_set,Ne.symm e]]
   exact hr.2.2 i hi
theorem Eh {L:List Obj} {k:Key} {i:Int} {v:Key} (hL:ar L) (h:aU L k=true) (h2:k.kind=2) (h0:0<=i) (h1:i<16):∀j,j<16->dC (L.length:Int) (((aj L k.oid.toNat free).slots.put i.toNat (ah L v)).at j):=fun j hj=>by
 rw[cL.fY _ _ _ _ (by omega)]
 split
 ·exact o7 (fR.1 hL).1 v
 ·exact tJ hL h h2 j hj
theorem Ip {n:Int} (hn:0<=n):∀j,j<16->dC n (gV.at j):=fun j hj=>by
 rw[HF.1 rfl j hj];exact⟨pY,by have:=mV.2;omega⟩
theorem vu (L:List Obj) (v:Key):(decide (bw v=0)&&(!aZ v||decide (cw v<ak L)))=bJ L v:=by
 unfold bJ bw cw ak;rcases k9 v with⟨a,b,c⟩|⟨a,b⟩
 ·rw[a,b];cases aV v<;>simp
 ·rw[a,b];have:(-1:Int)<(ai L:Int):=by omega
  cases aV v<;>simp[this]
theorem Bj {L:List Obj} {t f:Key} {g:Int} (h0:0<=g):dF L t f (g+1)=(dF L t f g).put g.toNat (dh L f g):=by
 unfold dF;rw[show(g+1).toNat=g.toNat+1 by omega,List.range_succ,List.foldl_append]
 simp only[List.foldl_cons,List.foldl_nil];rw[show((g.toNat:Nat):Int)=g by omega]
theorem Et {L:List Obj} {t f:Key} (h:aa L t=aj L t.oid.toNat free):aa L t=eo (aa L t) (dF L t f 0):=by
 unfold dF eo;simp[h]
theorem Ef {L:List Obj} {t f:Key} {g:Int} (h0:0<=g) (h:aa L f=aj L f.oid.toNat free) (o:Obj) (s:cL):({kind:=(eo o (dF L t f g)).kind,count:=(eo o (dF L t f g)).count,calls:=(eo o (dF L t f g)).calls,slots:=(eo o (dF L t f g)).slots.put g.toNat (ju L (aa L f) f g),bytes:=(eo o (dF L t f g)).bytes}:Obj)=eo o (dF L t f (g+1)):=by
 rw[Bj h0];unfold dh;rw[h];rfl
theorem yV {L:List Obj} {t f:Key} (hL:ar L) (h:aU L t=true) (h2:t.kind=2):∀n:Nat,n<=16->∀j,j<16->dC (L.length:Int) ((dF L t f n).at j)
 |0,_,j,hj=>by
  unfold dF;exact tJ hL h h2 j hj
 |n+1,hn,j,hj=>by
  rw[show((n+1:Nat):Int)=(n:Int)+1 by omega,Bj (by omega),cL.fY _ _ _ _ (by omega)]
  split
  ·exact UJ (fR.1 hL).1 _ _
  ·exact yV hL h h2 n (by omega) j hj
theorem AE {L M:List Obj} {g:Int} (hg:pQ L M g) (hge:(ai L:Int)<=g):decide (g=bD (ai M))=gO L M:=by
 have:=Pw hg hge
 have e:ak L=g:=by
  have:=hg.2.1;unfold ak;omega
 rw[decide_eq_true e,Bool.and_true]at this;exact this
structure YP where
 kind:Int
 slot:Int
 key:Key
 other:Key
def nM (l:List Obj):Bool:=decide ((ai l:Int)<=20)&&fN l
def XJ:kc:=QG (bc As gK) (fun _=>True) (fun x=>nM x.1) (fun _=>jJ) (fun _ n=> .lp n 0) (fun x=> .store tS eS x.1)
def zb (L:List Obj) (a:YP):Bool:=
 if a.kind=1 then false else if a.kind=2 then decide (bk L a.key a.slot a.other=0)else if a.kind=3 then decide (aC L a.key 2 true=0)else if a.kind=4 then decide (bS L a.key a.other=0)else false
def G4 (L:List Obj) (a:YP):List Obj:=
 if a.kind=1 then L else if a.kind=2 then cB L a.key a.slot a.other else if a.kind=3 then fD L a.key else if a.kind=4 then eT L a.key a.other else L
theorem MF {L:List Obj} {k:Key} {i:Int} (h:aC L k 2 false≠0):bW L k i=aC L k 2 false/\aJ L k i=void:=by
 have:bW L k i=aC L k 2 false:=by unfold bW;rw[aa8 h]
 exact⟨this,by unfold aJ;rw[this,aa8 h]⟩
theorem Mt {L:List Obj} {k:Key} {i:Int} (h:aC L k 2 false=0) (hr:i<0\/15<i):bW L k i=4/\aJ L k i=void:=by
 have:bW L k i=4:=by
  unfold bW kh;rw[aa9 h,aa8 (by simp;omega)]
 exact⟨this,by unfold aJ;rw[this];rfl⟩
theorem Rr {L:List Obj} {k:Key} {i:Int} (h:aC L k 2 false=0) (hr:¬(i<0\/15<i)):bW L k i=0/\aJ L k i=dh L k i:=by
 have:bW L k i=0:=by
  unfold bW kh;rw[aa9 h,aa9 (by simp;omega)]
 exact⟨this,by unfold aJ;rw[this];rfl⟩
theorem CM {L:List Obj} {k:Key} {i:Int} {v:Key} {e:Int} (h:bk L k i v=e) (he:e≠0):bk L k i v=e/\cR L k i v=void/\cB L k i v=L:=⟨h,by unfold cR;rw[h,aa8 he],by unfold cB;rw[h,aa8 he]⟩
theorem NA {L:List Obj} {k:Key} {i:Int} {v:Key} (h:aC L k 2 true≠0):bk L k i v=aC L k 2 true/\cR L k i v=void/\cB L k i v=L:=CM (by unfold bk;rw[aa8 h]) h
theorem PL {L:List Obj} {k:Key} {i:Int} {v:Key} (h:aC L k 2 true=0) (hr:i<0\/15<i):bk L k i v=4/\cR L k i v=void/\cB L k i v=L:=
 CM (by unfold bk kh;rw[aa9 h,aa8 (by simp;omega)]) (by omega)
theorem PU {L:List Obj} {k:Key} {i:Int} {v:Key} (h:aC L k 2 true=0) (hr:¬(i<0\/15<i)) (hm:bJ L v=false):bk L k i v=2/\cR L k i v=void/\cB L k i v=L:=
 CM (by unfold bk kh;rw[aa9 h,aa9 (by simp;omega),hm];rfl) (by omega)
theorem RW {L:List Obj} {k:Key} {i:Int} {v:Key} (h:aC L k 2 true=0) (hr:¬(i<0\/15<i)) (hm:bJ L v=true):
  bk L k i v=0/\cR L k i v=dh L k i/\cB L k i v=tE L k ((aj L k.oid.toNat free).slots.put i.toNat (ah L v)):=by
 have:bk L k i v=0:=by unfold bk kh;rw[aa9 h,aa9 (by simp;omega),hm];rfl
 exact⟨this,by unfold cR;rw[this];rfl,by unfold cB;rw[this];rfl⟩
theorem uM {L:List Obj} {k:Key} (hL:ar L) (h:aU L k=true):dI L k.oid/\0<=k.oid/\k.oid<(ai L:Int)/\k.oid.toNat<ai L:=by
 obtain⟨_,b2,b3,_⟩:=eg h;have:=(fR.1 hL).2.1;exact⟨⟨b2,b3,by unfold ai;omega⟩,b2,b3,by unfold ai;omega⟩
theorem kr (k:Key):yf k k=true:=by simp[yf]
def YP.wf (x:YP):Prop:=bY .i64 x.kind/\bY .i64 x.slot/\x.key.wf/\x.other.wf
theorem hU (L:List Obj):gO L L=true:=by unfold gO;simp
theorem Ge {L:List Obj} {k:Key} {i:Int} {v:Key} (h:bk L k i v=0):aC L k 2 true=0/\0<=i/\i<16:=by
 unfold bk kh at h;split at h
 ·rename_i h1;split at h
  ·rename_i h2;simp at h2;exact⟨h1,h2.1,h2.2⟩
  ·omega
 ·rename_i h1;exact absurd h h1
theorem zE {L:List Obj} {a:YP} (hL:ar L) (h:zb L a=true):ar (G4 L a):=by
 unfold zb at h;unfold G4;split at h
 ·simp at h
 ·rename_i h1;rw[aa8 h1];split at h
  ·rename_i h2;rw[aa9 h2];have h:=aa6 h;obtain⟨e1,e2,e3⟩:=Ge h;obtain⟨a1,a2,_⟩:=gr e1;unfold cB;rw[aa9 h];exact(pk hL a1 a2 (Eh hL a1 a2 e2 e3)).2
  ·rename_i h2;rw[aa8 h2];split at h
   ·rename_i h3;rw[aa9 h3];have h:=aa6 h;obtain⟨a1,a2,_⟩:=gr h;unfold fD;rw[aa9 h];exact(pk hL a1 a2 (Ip (by omega))).2
   ·rename_i h3;rw[aa8 h3];split at h
    ·rename_i h4;rw[aa9 h4];have h:=aa6 h;have h':=h;unfold bS at h';split at h'
     ·rename_i h5;obtain⟨a1,a2,_⟩:=gr h5;unfold eT;rw[aa9 h];exact(pk hL a1 a2 (yV hL a1 a2 16 (by omega))).2
     ·rename_i h5;exact absurd h' h5
    ·simp at h
theorem Tu {l:List Obj} (h:nM l=true):ar l/\l.length<=20:=by
 unfold nM at h;simp only[aa2,aa3]at h;unfold ai at h;exact⟨h.2,by omega⟩
section
variable {L:List Obj} {k:Key} {s:cL} (h0:0<=k.oid) (h1:k.oid<(L.length:Int))
include h0 h1
end
theorem fF {L:List Obj} {j:Int} (h0:0<=j) (h1:j<(L.length:Int)):aL L j=aj L j.toNat free:=by
 unfold aL;rw[aa9 (lE.2 ⟨h0,h1⟩)]
theorem gh {L:List Obj} {i:Nat} {x:Obj} (hi:i<L.length) (j:Nat):aj (cA L i x) j free=if j=i then x else aj L j free:=by
 by_cases e:j=i
 ·subst e;rw[aa9 rfl];simp[aj,cA,aa7,hi]
 ·rw[aa8 e];simp[aj,cA,aa7,List.getElem?_set,Ne.symm e]
theorem ib {L:List Obj} {i:Nat} {x:Obj}:(cA L i x).length=L.length:=by simp[cA]
theorem lV {κ:Nat->Option Nat} {x a:V} {l m:List V} (h1:fS κ x=some a) (h2:eJ κ l=some m):eJ κ (x::l)=some (a::m):=by
 simp only[eJ];rw[h1];simp only;rw[h2]
def uk {α:Type} (B:ld α) (l:List V):Option α:=match B.rd [] l with
 |some p=>match p.1 with
  | []=>some p.2
  |_=>none
 |none=>none
theorem fL {α:Type} {B:ld α} (hB:gS B) (hid:∀a,lf (B.cn a 0)=true):∀l x,uk B l=some x->fc l (B.cn x 0):=fun l x h=>by
 unfold uk at h;split at h
 case h_2=>simp at h
 rename_i p hp;obtain⟨pls,a⟩:=p;split at h
 case h_2=>simp at h
 rename_i h1;simp only at h1;subst h1;simp only[aa0]at h;subst h;obtain⟨_,_,_,b4⟩:=hB _ _ _ _ hp;obtain⟨c1,c2⟩:=b4 [] [];intro J K hk;have e1:=(c1 J K hk).1;have e2:=c2 K hk;have e3:fM (fun _=>False) (B.cn a 0):=mo _ (hid a) e2
 refine⟨?_,mo _ (hid a) e2⟩;rw[<-e1];exact fT (N:=fun _=>False) (fun _ h=>h.elim) _ e3
def Ar {α:Type} (B:List V->Option α) (Q:List Obj->α->Prop) (chg:List Obj->α->Bool) (L1:List Obj->α->List Obj) (F:List Obj->α->List V):kc:=fun args res K=>
 match args with
 |b::l=>match B l with
  |some x=>match b with
   | .sa j=>match cH res j with
     | .arr _ z t=>if z==163 then match t with
       | .ob M=>Q M x/\(chg M x=false->K (.tp (.sa j::F M x)) res)/\(chg M x=true->K (.tp (.sa res.length::F M x)) (res++ [.arr (some tO) 163 (.ob (L1 M x))]))
       |_=>False
       else False
     |_=>False
   |_=>False
  |none=>False
 |_=>False
def xS (c:Bool) (L1:List Obj) (F:List V) (v:V) (r:List aK):Prop:=
 match v with
 | .tp l=>match l with
   |a::bs=>match a with
    | .sa p=>if p==0 then c=false/\oq (.tp F) (.tp bs) r else if Nat.ble 1 p then match ay r p with
      | .arr own z t=>match own with
        |some e=>match t with
         | .ob M=>if z==163&&e==tO then c=true/\oq (.tp F) (.tp bs) r/\M=L1 else False
         |_=>False
        |none=>False
      |_=>False
      else False
    |_=>False
   | []=>False
 |_=>False
theorem Sa {c:Bool} {L1:List Obj} {F:List V} {v:V} {r:List aK} (h:xS c L1 F v r):∃p bs,v= .tp (.sa p::bs)/\oq (.tp F) (.tp bs) r/\((p=0/\c=false)\/(1<=p/\c=true/\ay r p= .arr (some tO) 163 (.ob L1))):=by
 unfold xS at h;split at h
 case h_2=>exact h.elim
 split at h
 case h_2=>exact h.elim
 split at h
 case h_2=>exact h.elim
 rename_i p;split at h
 ·rename_i e;have e:=aa4.1 e;exact⟨p,_,rfl,h.2,.inl ⟨e,h.1⟩⟩
 ·split at h
  case isFalse=>exact h.elim
  rename_i hp;have hp:1<=p:=by simpa using hp
  split at h
  case h_2=>exact h.elim
  rename_i hrp;split at h
  case h_2=>exact h.elim
  split at h
  case h_2=>exact h.elim
  split at h
  case isFalse=>exact h.elim
  rename_i hc;simp only[aa2,aa4]at hc;obtain⟨rfl,rfl⟩:=hc;obtain⟨h1,h2,rfl⟩:=h;exact⟨p,_,rfl,h2,.inr ⟨hp,h1,hrp⟩⟩
theorem an.U8 {P:Program} {f:Nat} {args:List V} {K KP:V->List aK->Prop} {own:Option Nat} {z:Nat} {l:TL} (h:an P f args [.ro (.arr none z l)] K KP):an P f args [.ro (.arr own z l)] K KP:=by
 have hk:∀i (own:Option Nat),known [.ro (.arr own z l)] i↔i<1:=fun i own=>by
  unfold known;match i with
  |0=>simp[ay]
  |i+1=>simp[ay]
 refine h.tF fun J fps w0 F0 w hH=>⟨J,fps,hH.weaken fun i hi=>⟨(hk i _).2 ((hk i _).1 hi),fun fp hh=>?_⟩,Env.bE.refl _ _,fun i hi=>(hk i _).2 ((hk i _).1 hi)⟩
 match i,(hk i _).1 hi with
 |0,_=>
  obtain⟨fp',g1,g2⟩:=hh;exact⟨fp',uP g1,g2⟩
theorem Ey {κ:Nat->Option Nat} {p j:Nat} {bs F:List V} {r:List aK} (hκ:κ p=some j) (hF:lf F=true) (hb:oq (.tp F) (.tp bs) r):jT κ (.tp (.sa p::bs)) (.tp (.sa j::F)):=by
 intro ρ2 ρ3 N N' h1 h2 hv;obtain⟨hp,hbs⟩:=hv;obtain⟨e1,e2,_⟩:=dD hb ρ2 N;obtain⟨a1,a2,a3,a4,a5,a6⟩:=h1 p j hκ;have hFN:fM N F:=e2 hbs;have hF0:fM (fun _=>False) F:=mo _ hF hFN
 have e3:bB ρ3 F=bB ρ2 F:=fT (N:=fun _=>False) (fun _ h=>h.elim) _ hF0
 simp only[den,Value.tuple.injEq]at e1;have e1:bB ρ2 bs=bB ρ2 F:=by simpa using e1
 refine⟨?_,h2 p j hκ hp,mo _ hF hFN⟩;simp only[den,bB,e3,e1,a2,a4,a5]
theorem iM {P:Program} {f:Nat} {α:Type} {B:List V->Option α} {m:α->List V} {Q:List Obj->α->Prop} {chg:List Obj->α->Bool} {L1:List Obj->α->List Obj} {F:List Obj->α->List V} (hB:∀l x,B l=some x->fc l (m x)) (hid:∀x,lf (m x)=true)
  (hF:∀L x,lf (F L x)=true) (hcl:∀L x,Q L x->an P f (.sa 0::m x) [.ro (.arr none 163 (.ob L))] (xS (chg L x) (L1 L x) (F L x)) (fun _ _=>False)):kL P f (Ar B Q chg L1 F):=by
 intro args res K KP h;unfold Ar at h;split at h
 case h_2=>exact h.elim
 split at h
 case h_2=>exact h.elim
 rename_i x hx;refine an.args (fc.jH (hB _ _ hx)) ?_;split at h
 case h_2=>exact h.elim
 rename_i j;split at h
 case h_2=>exact h.elim
 rename_i own z t hj;split at h
 case isFalse=>exact h.elim
 rename_i hz;have hz:=aa4.1 hz;subst hz;split at h
 case h_2=>exact h.elim
 rename_i M;obtain⟨hQ,h0,h1⟩:=h;have hkj:=dV hj (by simp)
 have hjl:=aO hkj;have hres:eY (kX 0 (dB [(j,false)])) res [(j,false)]= [.ro (.arr own 163 (.ob M))]:=by simp[eY,hj,gp]
 refine an.frame (pl:= [(j,false)]) (args0:= .sa 0::m x) (K0:=xS (chg M x) (L1 M x) (F M x)) (KP0:=fun _ _=>False) (by simp[eI,cC.2 hkj]) (by simpa[iD,dB,nN]using hjl) ?_ ?_ (fun v r hv=>?_) (fun _ _ h=>h.elim)
 ·exact lV (by simp[fS,kX,idxOf,dB]) (js _ (hid x))
 ·rw[hres];exact an.U8 (hcl M x hQ)
 ·obtain⟨p,bs,rfl,hb,hv⟩:=Sa hv;rcases hv with⟨rfl,hc⟩|⟨hp,hc,hrp⟩
  ·have hm:merge [(j,false)] [] r res=res:=by simp[merge,eZ,fZ]
   refine⟨[],.tp (.sa j::F M x),rfl,by simp[jO],rfl,Ey (by simp[back,vF]) (hF M x) hb,by rw[hm];exact h0 hc⟩
  ·have hpl:p<r.length:=aO (by rw[hrp];simp)
   have hm:merge [(j,false)] [p] r res=res++ [.arr (some tO) 163 (.ob (L1 M x))]:=by simp[merge,eZ,hrp,gp,fZ]
   refine⟨[p],.tp (.sa res.length::F M x),by simpa[iD,nN]using⟨hp,hpl⟩,by simp[jO],by simp[m9,hrp,jF],Ey ?_ (hF M x) hb,by rw[hm];exact h1 hc⟩
   unfold back;rw[sk _ _ (by simpa using hp)]
   simp[idxOf]
def YB {α:Type} (B:List V->Option α) (R:α->Prop) (Q:List Obj->α->Prop) (F:List Obj->α->V) (M:List Obj->α->List Obj):kc:=fun args res K=>
 match args with
 |a::l=>match B l with
  |some x=>R x/\match a with
   | .nl v=>match v with
     | .pointer none=>K (F [] x) res
     |_=>False
   | .lp k off=>if off==0 then match ay res k with
     | .store t e L=>if t==tS&&e==eS then Q L x/\K (F L x) (bO res k (.store tS eS (M L x)))else False
     | .blk t c=>if t==tS&&Y9 c then K (F [] x) res else False
     |_=>False
     else False
   |_=>False
  |none=>False
 |_=>False
theorem Ch {P:Program} {f:Nat} {α:Type} {B:List V->Option α} {m:α->List V} {R:α->Prop} {Q:List Obj->α->Prop} {F:List Obj->α->V} {M:List Obj->α->List Obj} (hB:∀l x,B l=some x->fc l (m x)) (hid:∀x,lf (m x)=true) (hF:∀L x,ke (F L x)=true)
  (h0:∀x,R x->an P f (jJ::m x) [] (oq (F [] x)) (fun _ _=>False)) (hz:∀x,R x->an P f (.lp 0 0::m x) [.ro (.blk tS zst)] (oq (F [] x)) (fun _ _=>False))
  (h1:∀L x,Q L x->an P f (.lp 0 0::m x) [.store tS eS L] (B8 (F L x) (M L x)) (fun _ _=>False)):kL P f (YB B R Q F M):=by
 intro args res K KP h;unfold YB at h;split at h
 case h_2=>exact h.elim
 split at h
 case h_2=>exact h.elim
 rename_i x hx;obtain⟨hR,h⟩:=h;refine an.args (fc.jH (hB _ _ hx)) ?_;split at h
 ·split at h
  ·exact an.pure (by simp only[lf,ke,Bool.true_and];exact hid x) (hF _ _) ((h0 x hR).mono (fun _ _ h=>dD h) fun _ _ h=>h) h
  ·exact h.elim
 ·split at h
  ·rename_i hoff;have hoff:=aa4.1 hoff;subst hoff;split at h
   ·rename_i hr;split at h
    ·rename_i hc;simp only[aa2,aa4]at hc;obtain⟨rfl,rfl⟩:=hc;exact an.Di hr (hid x) (hF _ _) ((h1 _ x h.1).mono (fun v r hv=>IC hv |> fun⟨a,b⟩=>⟨fun J K=>a J K,b⟩) fun _ _ h=>h) h.2
    ·exact h.elim
   ·rename_i hr;split at h
    ·rename_i hc;simp only[aa2,aa4]at hc;obtain⟨rfl,hz'⟩:=hc;have:=Ae hz';subst this;exact an.Lu (r0:= .blk tS zst) (by unfold cH;rw[hr];rfl) (by simp) (fun κ=>rfl) (hid x) (hF _ _) ((hz x hR).mono (fun _ _ h=>dD h) fun _ _ h=>h) h
    ·exact h.elim
   ·exact h.elim
  ·exact h.elim
 ·exact h.elim
def cK (n:Int):Key:=⟨1,0,0,0,0,n⟩
theorem dq {L:List Obj} (h:ar L) (j:Nat) (hj:j<L.length):bP (aj L j free) (L.length:Int)=true:=(fR.1 h).2.2 j hj
theorem gA {L:List Obj} (h:ar L):1<=L.length/\L.length<=64:=⟨(fR.1 h).1,(fR.1 h).2.1⟩
theorem Nw {L M:List Obj} (h:ar L) (hl:M.length=L.length) (hm:∀j,j<L.length->bP (aj M j free) (L.length:Int)=true):ar M:=by
 obtain⟨a,b⟩:=gA h;unfold ar;rw[fR,hl];exact⟨a,b,hm⟩
theorem lH {L:List Obj} {i:Nat} {x:Obj} (h:ar L) (hx:bP x (L.length:Int)=true):ar (cA L i x):=by
 by_cases hi:i<L.length
 ·refine Nw h ib fun j hj=>?_
  rw[gh hi];split
  ·exact hx
  ·exact dq h j hj
 ·rw[show cA L i x=L from List.set_eq_of_length_le (by omega)];exact h
theorem lY {L:List Obj} {i:Int} {x:Obj} (h0:0<=i) (h1:i<(L.length:Int)) (hx:bP x (L.length:Int)=true):cN L i x=cA L i.toNat x/\fJ L i x=0:=by
 have e:du L i=0:=lE.2 ⟨h0,h1⟩;have e2:c8 x (ai L:Int)=0:=by unfold c8;exact aa9 hx
 exact⟨(uB e e2).2,(uB e e2).1⟩
theorem T9 {n:Int} {s:cL} {k:Key} {j:Nat} (hj:j<16) (h:∀i,i<16->dC n (s.at i)) (hk:dC n k) (i:Nat) (hi:i<16):dC n ((s.put j k).at i):=by
 rw[cL.fY _ _ _ _ hj];split
 ·exact hk
 ·exact h i hi
theorem rZ {n:Int} (hn:0<=n) (x:Int):dC n (cK x):=by
 refine⟨by simp[cK,aV,fq,kx,ee,gM,fX],?_⟩
 unfold bd;rw[show ee (cK x).kind=false by simp[cK,ee]]
 simp;omega
theorem sg {o:Obj} {n:Int} (h:bP o n=true) (hk:o.kind=1) (i:Nat) (hi:i<16):dC n (o.slots.at i):=by
 obtain⟨a1,a2,a3,a4,a5,a6,a7,a8,a9,a10,a11⟩:=dS.1 h;have:=a10 i hi;rw[hk]at this;exact N5.1 this
theorem mD (o:Obj):CR o o=true:=by simp[CR]
end Go.Sx
