import Derived.Test.YtlblcfaclmpekaaGreatMa8
set_option linter.unusedSimpArgs false
set_option linter.unusedVariables false
set_option maxRecDepth 100000
namespace Go.Sx
def fZ (h:Bool) (n m:Int):Bool:=if h then decide (0<=n)&&decide (n<=m)else decide (n=0)
def ea (n:Int):Bool:=decide (2<=n)&&decide (n<=7)
def pI (n:Int):Bool:=decide (n=2)||decide (n=3)
def gO (n:Int):Bool:=decide (n=7)
def kG (n:Int):Bool:=decide (n=1)||decide (n=6)
def fy (n:Int):Int:=if n=2 then 7 else if n=3 then 1 else 0
def aV (k:Key):Bool:=
 decide (0<=k.kind)&&decide (k.kind<=10)&&decide (0<=k.rights)&&decide (k.rights<=fy k.kind)&&(kG k.kind||decide (k.value=0))&&
 fZ (ea k.kind) k.oid 63&&fZ (ea k.kind) k.count 4294967295&&fZ (gO k.kind) k.call 4294967295
def bB (k:Key):Int:=if aV k then 0 else 2
def bf (k:Key):Int:=if aV k&&ea k.kind then k.oid else -1
def gz (k:Key):Int:=if bf k<0 then 0 else if k.kind=3 then 2 else 1
def cI (k:Key) (o:Obj):Bool:=
 aV k&&(decide (bf k<0)||(decide (o.kind=gz k)&&decide (o.count=k.count)&&(!decide (k.kind=7)||decide (o.calls=k.call))))
def U8 (k:Key):Bool:=decide (0<=k.kind)&&decide (k.kind<=10)
def nM (n:Nat):ByteArray:=
 match n with
 |0=> "void".toUTF8
 |1=> "number".toUTF8
 |2=> "node".toUTF8
 |3=> "page".toUTF8
 |4=> "bank".toUTF8
 |5=> "proc".toUTF8
 |6=> "start".toUTF8
 |7=> "resume".toUTF8
 |8=> "discrim".toUTF8
 |9=> "clock".toUTF8
 |10=> "check".toUTF8
 |_=>ByteArray.empty
def kd (s:ByteArray) (a b c d:Bool) (m w:Int):V:= .ag [.st s,.cb a,.cb b,.cb c,.cb d,.ci .i64 m,.ci .i64 w]
def Dz:V:= .ag [kd (nM 0) false false false false 0 0,kd (nM 1) false false false true 0 0,kd (nM 2) true true false false 7 1,kd (nM 3) true true false false 1 2,
 kd (nM 4) true false false false 0 1,kd (nM 5) true false false false 0 1,kd (nM 6) true false false true 0 1,kd (nM 7) true false true false 0 1,
 kd (nM 8) false false false false 0 0,kd (nM 9) false false false false 0 0,kd (nM 10) false false false false 0 0]
def yh (k:Key):ByteArray:=if U8 k then nM k.kind.toNat else ByteArray.empty
def sU (n:Int):Int:=if n=3 then 2 else if 2<=n/\n<=7 then 1 else 0
def NR:Ct:=mk3 toBool (rI .i64) (rI .i64) fun h n m=> .bo (fZ h n m)
def aam:Ct:=QQ rK fun k=> .tp [.ag [.st (yh k),.bo (ea k.kind),.bo (pI k.kind),.bo (gO k.kind),.bo (kG k.kind),.it .i64 (fy k.kind),.it .i64 (sU k.kind)],.bo (aV k)]
def aaj:Ct:=QQ (rI .i64) fun n=> .tp [.bo (ea n),.bo (pI n),.bo (gO n),.bo (kG n)]
def U3:Ct:=QQ rK fun k=> .it .i64 (bB k)
def aZ (k:Key):Bool:=aV k&&ea k.kind
def cy (k:Key):Int:=if aZ k then k.oid else 0
def NW:Ct:=QQ rK fun k=> .tp [.it .i64 (cy k),.bo (aZ k)]
def MV:Ct:=QQ rK fun k=> .it .i64 (bf k)
def Lj:Ct:=QQ rK fun k=> .it .i64 (gz k)
def Et:Ct:=Se rK rO fun k o=> .bo (cI k o)
theorem wrap_i64 {n:Int} (h:cc .i64 n):IntKind.wrap .i64 n=n:=by
 have:=h;simp only[cc]at this;unfold IntKind.wrap;simp[IntKind.bits,IntKind.signed];omega
theorem ui {r:Int} (j:Nat) (hj:j<63) (h0:0<=r) (h1:r<=9223372036854775807):bk .andNot .i64 r ((2^j-1:Nat):Int)=0↔r<2^j:=by
 obtain⟨n,rfl⟩:=Int.eq_ofNat_of_zero_le h0;have hn:n<2^64:=by omega
 have hbit:∀i,(BitVec.ofInt 64 (n:Int)).getLsbD i=n.testBit i:=by
  intro i;rw[BitVec.ofInt_natCast,BitVec.getLsbD_ofNat];by_cases hi:i<64
  ·simp[hi]
  ·rw[Nat.testBit_lt_two_pow (Nat.lt_of_lt_of_le hn (Nat.pow_le_pow_right (by omega) (by omega)))];simp
 have hx:(BitVec.ofInt 64 (n:Int) &&& ~~~BitVec.ofInt 64 ((2^j-1:Nat):Int)).toNat=0↔n<2^j:=by
  constructor
  ·intro h;refine Nat.lt_pow_two_of_testBit _ fun i hi=>?_
   rcases Nat.lt_or_ge i 64 with h64|h64
   ·have h2:(BitVec.ofInt 64 (n:Int) &&& ~~~BitVec.ofInt 64 ((2^j-1:Nat):Int)).getLsbD i=false:=by
     rw[BitVec.getLsbD,h];simp
    rw[BitVec.getLsbD_and,hbit,BitVec.getLsbD_not,BitVec.ofInt_natCast,BitVec.getLsbD_ofNat,Nat.testBit_two_pow_sub_one]at h2;simp only[h64,decide_true,Bool.true_and,show¬i<j by omega,decide_false,Bool.not_false,Bool.and_true]at h2
    exact h2
   ·exact Nat.testBit_lt_two_pow (Nat.lt_of_lt_of_le hn (Nat.pow_le_pow_right (by omega) h64))
  ·intro h
   have:BitVec.ofInt 64 (n:Int) &&& ~~~BitVec.ofInt 64 ((2^j-1:Nat):Int)=0#64:=by
    refine BitVec.eq_of_getLsbD_eq fun i hi=>?_
    rw[BitVec.getLsbD_and,hbit,BitVec.getLsbD_not,BitVec.ofInt_natCast,BitVec.getLsbD_ofNat,Nat.testBit_two_pow_sub_one];by_cases hij:i<j
    ·simp[hij,hi]
    ·rw[Nat.testBit_lt_two_pow (Nat.lt_of_lt_of_le h (Nat.pow_le_pow_right (by omega) (by omega)))];simp
   rw[this];rfl
 have hle:(BitVec.ofInt 64 (n:Int) &&& ~~~BitVec.ofInt 64 ((2^j-1:Nat):Int)).toNat<=n:=by
  rw[BitVec.toNat_and];refine Nat.le_trans Nat.and_le_left ?_;rw[BitVec.ofInt_natCast,BitVec.toNat_ofNat];exact Nat.mod_le _ _
 have hp:((2^j:Nat):Int)=(2:Int)^j:=by simp
 change IntKind.wrap .i64 (((BitVec.ofInt 64 (n:Int) &&& ~~~BitVec.ofInt 64 ((2^j-1:Nat):Int)).toNat:Nat):Int)=0↔_
 generalize (BitVec.ofInt 64 (n:Int) &&& ~~~BitVec.ofInt 64 ((2^j-1:Nat):Int)).toNat=x at *
 rw[wrap_i64 (by simp only[cc];omega),<-hp]
 omega
theorem Ux {r:Int} (h0:0<=r) (h1:r<=9223372036854775807):bk .andNot .i64 r 7=0↔r<=7:=by
 have:=ui 3 (by omega) h0 h1
 rw[show((2^3-1:Nat):Int)=7 from rfl,show(2:Int)^3=8 from rfl]at this;rw[this];omega
theorem Sr {r:Int} (h0:0<=r) (h1:r<=9223372036854775807):bk .andNot .i64 r 1=0↔r<=1:=by
 have:=ui 1 (by omega) h0 h1
 rw[show((2^1-1:Nat):Int)=1 from rfl,show(2:Int)^1=2 from rfl]at this;rw[this];omega
theorem TB {r:Int} (h0:0<=r) (h1:r<=9223372036854775807):bk .andNot .i64 r 0=0↔r<=0:=by
 have:=ui 0 (by omega) h0 h1
 rw[show((2^0-1:Nat):Int)=0 from rfl,show(2:Int)^0=1 from rfl]at this;rw[this];omega
theorem Lk {r m:Int} {b:Bool} (h:0<=r->(b=decide (r<=m))):(decide (0<=r)&&b)=(decide (0<=r)&&decide (r<=m)):=by
 by_cases h0:0<=r
 ·rw[h h0]
 ·simp[h0]
end Go.Sx
namespace Go.Proofs.YtlblcfaclmpekaaGreat
open Go.Sx
theorem Kg (h:Bool) (n m:Int):
 (h&&decide (0<=n)&&decide (n<=m)|| !h&&decide (n=0))=fZ h n m:=by
 unfold fZ;cases h<;>simp
theorem Kb:cz Tryz.prog 105 NR:=
 L8 PD (gq .i64) (gq .i64) (fun _ _ _=>rfl) fun h n m _ _ _=>bc (inl:=bx) (ann:=aQ) ar (Kg h n m) (by kernel_rfl)
theorem Qy:cz Tryz.prog 104 (YO Dz):=
 W3 rfl (bc (inl:=bx) (ann:=aQ) ar (G:=Dz=Dz) rfl (by kernel_rfl):an _ _ _ _ (fun v _=>v=Dz) (fun _ _=>False))
abbrev acG(k:Key):=aj [false,false,true,true,true,true,true,true,false,false,false] k.kind.toNat false
theorem Xt (k:Key) (hk:k.wf):
 aba (decide (k.kind<0)||decide (10<k.kind)) ({data:={toList:=[]}}=yh k/\false=ea k.kind/\false=pI k.kind/\false=gO k.kind/\false=kG k.kind/\0=fy k.kind/\0=sU k.kind/\false=aV k) ((0<=k.kind/\k.kind< ↑11)/\aj [nM 0,nM 1,nM 2,nM 3,nM 4,nM 5,nM 6,nM 7,nM 8,nM 9,nM 10] k.kind.toNat {data:={toList:=[]}}=yh k/\aj [false,false,true,true,true,true,true,true,false,false,false] k.kind.toNat false=ea k.kind/\aj [false,false,true,true,false,false,false,false,false,false,false] k.kind.toNat false=pI k.kind/\aj [false,false,false,false,false,false,false,true,false,false,false] k.kind.toNat false=gO k.kind/\aj [false,true,false,false,false,false,true,false,false,false,false] k.kind.toNat false=kG k.kind/\aj [0,0,7,1,0,0,0,0,0,0,0] k.kind.toNat 0=fy k.kind/\aj [0,0,1,2,1,1,1,1,0,0,0] k.kind.toNat 0=sU k.kind/\(fZ (acG k) k.oid 63&&fZ (acG k) k.count 4294967295&&fZ (aj [false,false,false,false,false,false,false,true,false,false,false] k.kind.toNat false) k.call 4294967295&&decide (0<=k.rights)&&decide (bk BinOp.andNot IntKind.i64 k.rights (aj [0,0,7,1,0,0,0,0,0,0,0] k.kind.toNat 0)=0)&&(aj [false,true,false,false,false,false,true,false,false,false,false] k.kind.toNat false||decide (k.value=0)))=aV k):=by
 delta aba acG
 obtain⟨kind,oid,count,call,rights,value⟩:=k;have hr:rights<=9223372036854775807:=hk.2.2.2.2.1.2;simp only;have he:(ByteArray.empty:ByteArray)= {data:= {toList:= []}}:=rfl;refine⟨fun h=>?_,fun h=>?_⟩
 ·simp only[Bool.or_eq_true,aaW]at h;refine⟨?_,?_,?_,?_,?_,?_,?_,?_⟩<;>simp only[yh,U8,ea,pI,gO,kG,fy,sU,aV]<;>grind
 ·simp only[Bool.or_eq_false_iff,decide_eq_false_iff_not]at h;have hb:∀m,(0<=rights->(decide (bk .andNot .i64 rights m=0))=decide (rights<=m))->(decide (0<=rights)&&decide (bk .andNot .i64 rights m=0))=(decide (0<=rights)&&decide (rights<=m)):=fun m hm=>Lk hm
  have h7:=hb 7 fun h0=>by rw[decide_eq_decide];exact Ux h0 hr
  have h1:=hb 1 fun h0=>by rw[decide_eq_decide];exact Sr h0 hr
  have h0:=hb 0 fun h0=>by rw[decide_eq_decide];exact TB h0 hr
  have hc:kind=0\/kind=1\/kind=2\/kind=3\/kind=4\/kind=5\/kind=6\/kind=7\/kind=8\/kind=9\/kind=10:=by omega
  rcases hc with rfl|rfl|rfl|rfl|rfl|rfl|rfl|rfl|rfl|rfl|rfl<;>
   refine⟨⟨by decide,by decide⟩,rfl,rfl,rfl,rfl,rfl,rfl,rfl,?_⟩<;>
   simp only[aj,aV,ea,kG,gO,fy,Int.reduceToNat,List.getD_cons_zero,List.getD_cons_succ,Bool.and_assoc]<;>
   simp+decide [fZ]<;>grind
theorem zN:cz Tryz.prog 67 aam:=
 qe gI (fun _=>rfl) fun k hk=>bc (inl:=bx) (ann:=aQ) (ae Kb (ae Qy ar)) (Xt k hk) (by kernel_rfl)
theorem Rl (k:Key) (hk:k.wf):
 ((!aV k)=true->2=bB k)/\((!aV k)=false->0=bB k):=by
 unfold bB;cases aV k<;>simp
theorem gy:cz Tryz.prog 69 U3:=
 qe gI (fun _=>rfl) fun k hk=>bc (inl:=bx) (ann:=aQ) (ae zN ar) (Rl k hk) (by kernel_rfl)
theorem J4 (k:Key) (hk:k.wf):
 ((!aV k|| !ea k.kind)=true->0=cy k/\false=aZ k)/\
   ((!aV k|| !ea k.kind)=false->k.oid=cy k/\true=aZ k):=by
 unfold cy aZ;cases aV k<;>cases ea k.kind<;>simp
theorem dJ:cz Tryz.prog 46 NW:=
 qe gI (fun _=>rfl) fun k hk=>bc (inl:=bx) (ann:=aQ) (ae zN ar) (J4 k hk) (by kernel_rfl)
theorem FP (k:Key) (o:Sx.Obj) (hk:k.wf):
 aba (!aV k) (false=cI k o) (aba (!ea k.kind) (true=cI k o) ((decide (o.kind=sU k.kind)&&decide (o.count=k.count)&&(!gO k.kind||decide (o.calls=k.call)))=cI k o)):=by
 delta aba
 cases hok:aV k
 ·simp[cI,hok]
 ·have h0:ea k.kind=true->0<=k.oid:=fun h=>by
   simp only[aV,fZ,h,if_true,aaV,aaW]at hok;omega
  simp only[cI,gz,bf,sU,gO,hok,Bool.true_and];simp only[ea]at *;grind
theorem Ab:cz Tryz.prog 47 Et:=
 pf gI Bh (fun _ _=>rfl) fun k o hk _=>bc (inl:=bx) (ann:=aQ) (ae zN ar) (FP k o hk) (by kernel_rfl)
theorem W0 (n:Int):
 (decide (2<=n)&&decide (n<=7))=ea n/\
  (decide (n=2)||decide (n=3))=pI n/\
   decide (n=7)=gO n/\(decide (n=1)||decide (n=6))=kG n:=by
 exact⟨rfl,rfl,rfl,rfl⟩
theorem Pc:cz Tryz.prog 106 aaj:=
 qe (gq .i64) (fun _=>rfl) fun n _=>bc (inl:=bx) (ann:=aQ) ar (W0 n) (by kernel_rfl)
abbrev acH(k:Key):=aba (ea k.kind&&(decide (k.oid<0)||decide (64<=k.oid)||decide (k.count<0)||decide (4294967295<k.count))|| !ea k.kind&&(!decide (k.oid=0)|| !decide (k.count=0))) (2=bB k) (aba (gO k.kind&&(decide (k.call<0)||decide (4294967295<k.call))|| !gO k.kind&& !decide (k.call=0)) (2=bB k) (0=bB k))
abbrev acI(k:Key):=aba (decide (k.kind<0)||decide (10<k.kind)||decide (k.rights<0)||decide (1<k.rights)|| !kG k.kind&& !decide (k.value=0)) (2=bB k) (acH k)
theorem Um (k:Key) (hk:k.wf):
 aba (pI k.kind) (aba (decide (k.kind=3)) (acI k) (aba (decide (k.kind<0)||decide (10<k.kind)||decide (k.rights<0)||decide (7<k.rights)|| !kG k.kind&& !decide (k.value=0)) (2=bB k) (acH k))) (aba (decide (k.kind=3)) (acI k) (aba (decide (k.kind<0)||decide (10<k.kind)||decide (k.rights<0)||decide (0<k.rights)|| !kG k.kind&& !decide (k.value=0)) (2=bB k) (acH k))):=by
 delta aba acI acH
 simp only[bB,aV,fZ,fy,pI];rcases Bool.eq_false_or_eq_true (ea k.kind)with hA|hA<;>rcases Bool.eq_false_or_eq_true (gO k.kind)with hB|hB<;>rcases Bool.eq_false_or_eq_true (kG k.kind)with hC|hC<;>simp only[hA,hB,hC,Bool.true_and,Bool.false_and,Bool.not_true,Bool.not_false,Bool.or_false,Bool.false_or,Bool.true_or,if_true,Bool.false_eq_true,if_false,Bool.and_true]<;>grind
theorem vN:cz Tryz.prog 70 U3:=
 qe gI (fun _=>rfl) fun k hk=>bc (inl:=bx) (ann:=aQ) (ae Pc ar) (Um k hk) (by kernel_rfl)
theorem Kj (k:Key) (hk:k.wf):
 ((!decide (bB k=0)|| !ea k.kind)=true-> -1=bf k)/\
   ((!decide (bB k=0)|| !ea k.kind)=false->k.oid=bf k):=by
 unfold bf bB;cases aV k<;>cases ea k.kind<;>simp
theorem pR:cz Tryz.prog 71 MV:=
 qe gI (fun _=>rfl) fun k hk=>bc (inl:=bx) (ann:=aQ) (ae Pc (ae vN ar)) (Kj k hk) (by kernel_rfl)
theorem JU (k:Key) (hk:k.wf):
 (decide (bf k<0)=true->0=gz k)/\
  (decide (bf k<0)=false->
   (decide (k.kind=3)=true->2=gz k)/\(decide (k.kind=3)=false->1=gz k)):=by
 unfold gz;grind
theorem J5:cz Tryz.prog 134 Lj:=
 qe gI (fun _=>rfl) fun k hk=>bc (inl:=bx) (ann:=aQ) (ae pR ar) (JU k hk) (by kernel_rfl)
theorem Gb (k:Key) (o:Sx.Obj) (hk:k.wf):
 aba (!decide (bB k=0)) (false=cI k o) (aba (decide (bf k<0)) (true=cI k o) ((decide (o.kind=gz k)&&decide (o.count=k.count)&&(!decide (k.kind=7)||decide (o.calls=k.call)))=cI k o)):=by
 delta aba
 unfold cI bB;cases aV k<;>grind
theorem Ha:cz Tryz.prog 107 Et:=
 pf gI Bh (fun _ _=>rfl) fun k o hk _=>bc (inl:=bx) (ann:=aQ) (ae vN (ae pR (ae J5 ar))) (Gb k o hk) (by kernel_rfl)
end Go.Proofs.YtlblcfaclmpekaaGreat
namespace Go.Sx
def mM (kind n:Int) (k:Key):Bool:=aV k&&decide (bf k<n)&&(decide (kind=1)||decide (k=void))
def bM (o:Obj) (n:Int):Bool:=
 decide (1<=n)&&decide (n<=64)&&decide (0<=o.kind)&&decide (o.kind<=3)&&decide (0<=o.count)&&decide (o.count<=4294967295)&&decide (0<=o.calls)&&decide (o.calls<=4294967295)&&
 (decide (o.kind=1)||decide (o.calls=0))&&(List.range 16).all (fun i=>mM o.kind n (o.slots.at i))&&
 (List.range 64).all (fun i=>decide (o.kind=1)||decide (o.kind=2)||decide (o.bytes.at i=0))
def ej (o:Obj) (n:Int):Int:=if bM o n then 0 else 2
def lL (o:Obj) (b:Bool):Bool:=decide (o.slots=g9)&&(b||decide (o.bytes=e9))&&decide (o.calls=0)
def pj (o:Obj) (n:Int) (i:Int):Bool:=(List.range i.toNat).all fun j=>aV (o.slots.at j)&&decide (bf (o.slots.at j)<n)
def C2 (i:Int):Prop:=0<=i/\i<=16
def XU:Ct:=Se rO toBool fun o b=> .bo (lL o b)
def Xv:Ct:=Se rO (rI .i64) fun o n=> .it .i64 (ej o n)
theorem fo {o:Obj} {n:Int}:bM o n=true↔1<=n/\n<=64/\0<=o.kind/\o.kind<=3/\0<=o.count/\o.count<=4294967295/\0<=o.calls/\o.calls<=4294967295/\
  (o.kind=1\/o.calls=0)/\(∀i,i<16->mM o.kind n (o.slots.at i)=true)/\∀i,i<64->(o.kind=1\/o.kind=2)\/o.bytes.at i=0:=by
 simp only[bM,aaV,aaW,Bool.or_eq_true,List.all_eq_true,List.mem_range,and_assoc]
theorem xZ {o:Obj} {n:Int} (h:¬bM o n=true):2=ej o n:=by simp[ej,h]
theorem uJ {o:Obj} {n:Int} (h:bM o n=true):0=ej o n:=by simp[ej,h]
theorem Hx {s:cZ}:s=g9↔ ∀i,i<16->s.at i=void:=by
 constructor
 ·rintro rfl i _;exact Aa i
 ·intro h;refine Vector.ext fun i hi=>?_
  have:=h i hi;unfold cZ.at at this;simp only[g9,Vector.getElem_replicate];rw[<-this];simp[hi]
theorem Ip {s:Bytes}:s=e9↔ ∀i,i<64->s.at i=0:=by
 constructor
 ·rintro rfl i hi
  unfold Bytes.at e9;simp[hi]
 ·intro h;refine Vector.ext fun i hi=>?_
  have:=h i hi;unfold Bytes.at at this;simp only[e9,Vector.getElem_replicate];rw[<-this];simp[hi]
theorem nb:aV void=true/\bf void= -1:=by decide
theorem xt {kind n:Int} (hk:kind≠1) (hn:1<=n) (k:Key):mM kind n k=true↔k=void:=by
 unfold mM;simp only[aaV,aaW,Bool.or_eq_true];constructor
 ·rintro⟨_,h|h⟩
  ·exact absurd h hk
  ·exact h
 ·rintro rfl
  exact⟨⟨nb.1,by rw[nb.2];omega⟩,.inr rfl⟩
theorem Mt {o:Obj} {b:Bool}:lL o b=true↔(∀i,i<16->o.slots.at i=void)/\(b=true\/∀i,i<64->o.bytes.at i=0)/\o.calls=0:=by
 simp only[lL,aaV,aaW,Bool.or_eq_true,Hx,Ip,and_assoc]
theorem Gp {o:Obj} {n:Int} (h1:1<=n) (h2:n<=64) (h3:0<=o.count) (h4:o.count<=4294967295) (h5:0<=o.calls) (h6:o.calls<=4294967295) {b:Bool} (hk:0<=o.kind/\o.kind<=3/\o.kind≠1) (hb:b=decide (o.kind=2)):
  bM o n=lL o b:=by
 rw[Bool.eq_iff_iff,fo,Mt];subst hb;constructor
 ·rintro⟨_,_,_,_,_,_,_,_,h,hs,hz⟩
  refine⟨fun i hi=>(xt hk.2.2 h1 _).1 (hs i hi),?_,h.resolve_left hk.2.2⟩
  by_cases h2:o.kind=2
  ·exact .inl (by simp[h2])
  ·exact .inr fun i hi=>(hz i hi).resolve_left fun h=>h.elim hk.2.2 h2
 ·rintro⟨hs,hz,hc⟩
  refine⟨h1,h2,hk.1,hk.2.1,h3,h4,h5,h6,.inr hc,fun i hi=>(xt hk.2.2 h1 _).2 (hs i hi),fun i hi=>?_⟩
  rcases hz with h|h
  ·exact .inl (.inr (by simpa using h))
  ·exact .inr (h i hi)
theorem Gn {o:Obj} {n:Int} (h1:1<=n) (h2:n<=64) (h3:0<=o.count) (h4:o.count<=4294967295) (h5:0<=o.calls) (h6:o.calls<=4294967295) (hk:o.kind=1):bM o n=pj o n 16:=by
 rw[Bool.eq_iff_iff,fo];simp only[pj,List.all_eq_true,List.mem_range,hk,mM,aaV,decide_true,Bool.true_or,and_true];constructor
 ·rintro⟨_,_,_,_,_,_,_,_,_,hs,_⟩
  exact fun i hi=>hs i hi
 ·intro hs;exact⟨h1,h2,by omega,by omega,h3,h4,h5,h6,.inl trivial,fun i hi=>hs i hi,fun i hi=> .inl (.inl trivial)⟩
theorem O6 {o:Obj} {n g:Int}:(pj o n g&&decide (bB (o.slots.at g.toNat)=0)&&(!aZ (o.slots.at g.toNat)||decide (cy (o.slots.at g.toNat)<n)))=
  (pj o n g&&(aV (o.slots.at g.toNat)&&(!aZ (o.slots.at g.toNat)||decide ((o.slots.at g.toNat).oid<n)))):=by
 unfold bB cy;cases aV (o.slots.at g.toNat)<;>cases aZ (o.slots.at g.toNat)<;>simp
theorem Lh {o:Obj} {n g:Int} (h0:0<=g) (hn:1<=n):(pj o n g&&decide (bB (o.slots.at g.toNat)=0)&&(!aZ (o.slots.at g.toNat)||decide (cy (o.slots.at g.toNat)<n)))=pj o n (g+1):=by
 rw[O6];unfold pj;rw[show(g+1).toNat=g.toNat+1 by omega,List.range_succ,List.all_append]
 simp only[List.all_cons,List.all_nil,Bool.and_true];congr 1
 unfold bf aZ;cases aV (o.slots.at g.toNat)
 ·rfl
 ·cases ea (o.slots.at g.toNat).kind
  ·simp;omega
  ·simp
end Go.Sx
namespace Go.Proofs.YtlblcfaclmpekaaGreat
open Go.Sx
theorem Sq (o:Sx.Obj) (b:Bool):
 (FD o.slots g9&&(b||E7 o.bytes e9)&&decide (o.calls=0))=lL o b:=by
 unfold lL FD E7;rfl
theorem Tr:cz Tryz.prog 68 XU:=
 pf Bh PD (fun _ _=>rfl) fun o b _ _=>bc (inl:=bx) (ann:=aQ) ar (Sq o b) (by kernel_rfl)
theorem SP (o:Sx.Obj) (n:Int):
 aba (decide (n<1)||decide (64<n)||decide (o.count<0)||decide (4294967295<o.count)||decide (o.calls<0)||decide (4294967295<o.calls)) (2=ej o n) (aba (decide (o.kind=0)) (aba (!lL o false) (2=ej o n) (0=ej o n)) (aba (decide (o.kind=3)) (aba (!lL o false) (2=ej o n) (0=ej o n)) (aba (decide (o.kind=2)) (aba (!lL o true) (2=ej o n) (0=ej o n)) (aba (decide (o.kind=1)) ((∃g,C2 g/\n=n/\true=pj o n g/\o.slots=o.slots/\0=g/\o=o)/\∀(g:Int),C2 g->aba (decide (g<16)) ((0<=g/\g< ↑16)/\aF IntKind.i64 (g+1)/\∃g',C2 g'/\(16-g').toNat<(16-g).toNat/\n=n/\(pj o n g&&decide (bB (o.slots.at g.toNat)=0)&&(!aZ (o.slots.at g.toNat)||decide (cy (o.slots.at g.toNat)<n)))=pj o n g'/\o.slots=o.slots/\g+1=g'/\o=o) (aba (!pj o n g) (2=ej o n) (0=ej o n))) (2=ej o n))))):=by
 delta aba
 refine⟨fun h=>xZ fun hh=>?_,fun h=>?_⟩
 ·have:=fo.1 hh;simp only[Bool.or_eq_true,aaW]at h;omega
 ·simp only[Bool.or_eq_false_iff,decide_eq_false_iff_not]at h
  have hb:∀(b:Bool),(0<=o.kind/\o.kind<=3/\o.kind≠1)->b=decide (o.kind=2)->((!lL o b)=true->2=ej o n)/\((!lL o b)=false->0=ej o n):=fun b h1 h2=>by
   have he:=Gp (o:=o) (n:=n) (b:=b) (by omega) (by omega) (by omega) (by omega) (by omega) (by omega) h1 h2
   exact⟨fun hn=>xZ (by rw[he];simpa using hn),fun hy=>uJ (by rw[he];simpa using hy)⟩
  refine⟨fun h0=>?_,fun h0=>⟨fun h3=>?_,fun h3=>⟨fun h2=>?_,fun h2=>⟨fun h1=>⟨⟨0,⟨by omega,by omega⟩,rfl,rfl,rfl,rfl,rfl⟩,fun g hg=>⟨fun hlt=>?_,fun hge=>?_⟩⟩,fun h1=>xZ fun hh=>?_⟩⟩⟩⟩
  ·have h0:=aaZ h0;exact hb false (by omega) (by simp[h0])
  ·have h3:=aaZ h3;exact hb false (by omega) (by simp[h3])
  ·have h2:=aaZ h2;exact hb true (by omega) (by simp[h2])
  ·obtain⟨g0,g1⟩:=hg;have hlt:=aaZ hlt;refine⟨⟨g0,by omega⟩,by simp only[aF,cc];omega,g+1,⟨by omega,by omega⟩,by omega,rfl,Lh g0 (by omega),rfl,rfl,rfl⟩
  ·obtain⟨g0,g1⟩:=hg;have hge:¬g<16:=aaY hge;have h1:=aaZ h1;have e:g=16:=by omega
   subst e;have he:=Gn (o:=o) (n:=n) (by omega) (by omega) (by omega) (by omega) (by omega) (by omega) h1
   exact⟨fun hn=>xZ (by rw[he];simpa using hn),fun hy=>uJ (by rw[he];simpa using hy)⟩
  ·have:=fo.1 hh;have h0:¬o.kind=0:=aaY h0;have h1:¬o.kind=1:=aaY h1;have h2:¬o.kind=2:=aaY h2;have h3:¬o.kind=3:=aaY h3;omega
theorem CJ:cz Tryz.prog 48 Xv:=
 pf Bh (gq .i64) (fun _ _=>rfl) fun o n _ _=>bc (inl:=bx) (ann:=(iJ [(48,12,Ws [1,2,51] (fun g=> [(52,.it .i64 g),(5,.bo (pj o n g))]) C2 16)])) (ae Tr (ae gy (ae dJ ar))) (SP o n) (by kernel_rfl)
end Go.Proofs.YtlblcfaclmpekaaGreat
namespace Go.Sx
def bu (L:List Obj):Bool:=decide (ai L=0)
def dA (L:List Obj) (oid:Int):Int:=if ai L=0 then 1 else if oid<0\/(ai L:Int)<=oid then 4 else 0
def aL (L:List Obj) (oid:Int):Obj:=if dA L oid=0 then aj L oid.toNat free else free
def ak (L:List Obj):Int:=(ai L:Int)
def aU (L:List Obj) (k:Key):Bool:=aZ k&&decide (dA L k.oid=0)&&cI k (aj L k.oid.toNat free)
def aa (L:List Obj) (k:Key):Obj:=if aU L k then aj L k.oid.toNat free else free
abbrev abp(L:List Obj)(k:Key)(i:Nat):Key:=(aa L k).slots.at i
def ah (L:List Obj) (k:Key):Key:=if bu L|| !aV k||(aZ k&& !aU L k)then void else k
def gZ (n:Int):Bool:=decide (1<=n)&&decide (n<=64)
def kh (n:Int):List Obj:=List.replicate n.toNat free
def cK (L:List Obj) (i:Int) (o:Obj):List Obj:=if dA L i=0/\ej o (ai L:Int)=0 then b6 L i.toNat o else L
def gi (L:List Obj) (i:Int) (o:Obj):Int:=if dA L i=0 then ej o (ai L:Int)else dA L i
def CR (l:List Obj):Bool:=decide (1<=ai l)&&decide (ai l<=64)&&(List.range (ai l)).all fun i=>bM (aj l i free) (ai l:Int)
def CH (n i:Int):Prop:=0<=i/\i<=n
abbrev tS:Nat:=102
abbrev eS:Nat:=106
def YI (c:Bool) (M:List Obj) (v:V) (r:List aK):Prop:=
 match v with
 | .tp l=>match l with
   | [a,b]=>match a with
     | .nl p=>match p with
       | .pointer none=>c=false/\oW (.ci .i64 2) b r
       |_=>False
     | .lp j off=>match J1 r j with
       |some (t,e,L)=>if off==0&&t==tS&&e==eS then c=true/\oW (.ci .i64 0) b r/\L=M else False
       |none=>False
     |_=>False
   |_=>False
 |_=>False
def aaK (n:Int):V->List aK->Prop:=YI (gZ n) (kh n)
def kSt (x:V) (M:List Obj) (v:V) (r:List aK):Prop:=
 match Hc r 0 with
 |some (t,e,_,L)=>if t==tS&&e==eS then oW x v r/\L=M else False
 |none=>False
def Vt:kq:=fun args res K=>
 match args with
 | [a]=>match rI .i64 a with
   |some n=>(gZ n=false->K (.tp [ke,.ci .i64 2]) res)/\(gZ n=true->K (.tp [.lp res.length 0,.ci .i64 0]) (res++ [.store tS eS (kh n)]))
   |none=>False
 |_=>False
def Y3 (c:V):Bool:=
 match c with
 | .ag l=>match l with
   | [x]=>match x with
     | .nl v=>match v with
       | .slice none 0 0=>true
       |_=>false
     |_=>false
   |_=>false
 |_=>false
theorem ze {c:V} (h:Y3 c=true):c= .ag [.nl (.slice none 0 0)]:=by
 unfold Y3 at h;split at h
 ·split at h
  ·split at h
   ·split at h
    ·rfl
    ·simp at h
   ·simp at h
  ·simp at h
 ·simp at h
def Vo:kq:=fun args res K=>
 match args with
 | [a,b,c]=>match rI .i64 b with
   |some i=>match rO c with
    |some o=>match a with
     | .nl v=>match v with
       | .pointer none=>K (.it .i64 (gi [] i o)) res
       |_=>False
     | .lp k off=>if off==0 then match az res k with
       | .store t e L=>if t==tS&&e==eS then K (.it .i64 (gi L i o)) (bP res k (.store tS eS (cK L i o)))else False
       | .blk t c=>if t==tS&&Y3 c then K (.it .i64 (gi [] i o)) res else False
       |_=>False
       else False
     |_=>False
    |none=>False
   |none=>False
 |_=>False
structure Stp where
 puts:Bool
 oid:Int
 ob:Obj
def Stp.wf (x:Stp):Prop:=cc .i64 x.oid/\x.ob.wf
def Uh:Ct:=YO (.bo true)
def jZ (L M:List Obj):Bool:=decide (L=M)
def p6 (L M:List Obj) (g:Int):Prop:=0<=g/\g<=(ai L:Int)/\g<=(ai M:Int)/\∀j:Nat,(j:Int)<g->aj L j free=aj M j free
def Xs:Ct:=Wb tS eS fun L M=> .bo (jZ L M)
def iY (L M:List Obj) (g:Int):List Int:=((List.range g.toNat).filter fun j=> !CW (aj L j free) (aj M j free)).map Int.ofNat
def j7 (L M:List Obj):Bool:=bu L||bu M|| !decide ((ai L:Int)=(ai M:Int))
def dQ (L M:List Obj):List Int:=iY L M (ai L:Int)
def mw (L:List Obj) (g:Int):List Obj:=L.take g.toNat
def qv (L:List Obj) (g:Int):Prop:=0<=g/\g<=(ai L:Int)
abbrev YB:V:= .nl (.slice none 0 0)
abbrev tI:Nat:=3
def ER (L:List Obj) (v:V) (r:List aK):Prop:=
 match v with
 | .nl p=>match p with
   | .pointer none=>bu L=true
   |_=>False
 | .lp j off=>match J1 r j with
   |some (t,e,M)=>if off==0&&t==tS&&e==eS&&Nat.ble 1 j then bu L=false/\M=L else False
   |none=>False
 |_=>False
def MN (L M:List Obj) (v:V) (r:List aK):Prop:=
 match v with
 | .nl p=>match p with
   | .slice none 0 0=>j7 L M=true
   |_=>False
 | .sa j=>match az r j with
   | .arr own esz l=>match own with
     |some e=>match l with
      | .it k l=>match k with
        | .i64=>if e==tI&&esz==1&&Nat.ble 2 j then j7 L M=false/\l=dQ L M else False
        |_=>False
      |_=>False
     |none=>False
   |_=>False
 |_=>False
def N1:kq:=fun args res K=>
 match args with
 | [a]=>match a with
   | .nl v=>match v with
     | .pointer none=>K ke res
     |_=>False
   | .lp k off=>if off==0 then match cP res k with
     | .store t e L=>if t==tS&&e==eS then ai L<=1000/\(bu L=true->K ke res)/\(bu L=false->K (.lp res.length 0) (res++ [.store tS eS L]))else False
     |_=>False
     else False
   |_=>False
 |_=>False
def U9:kq:=fun args res K=>
 match args with
 | [a,b]=>match b with
   | .lp j off=>if off==0 then match cP res j with
     | .store t e M=>if t==tS&&e==eS then match a with
       | .nl v=>match v with
         | .pointer none=>K YB res
         |_=>False
       | .lp k off'=>if off'==0&& !(k==j)then match cP res k with
         | .store t e L=>if t==tS&&e==eS then ai L<=1000/\(j7 L M=true->K YB res)/\(j7 L M=false->K (.sa res.length) (res++ [.arr (some tI) 1 (.it .i64 (dQ L M))]))else False
         |_=>False
         else False
       |_=>False
       else False
     |_=>False
     else False
   |_=>False
 |_=>False
def HR:Ct:=fun res nid xs=>match xs with
 | [a]=>match rS tS eS res a with
   |some (o,L)=>match o with
    |none=>some (none,.cb true,[])
    |some _=>some (none,.bo (bu L),[])
   |none=>none
 |_=>none
theorem kD {α:Type} (l:List α):bQ (ai l)=(l.length:Int):=rfl
theorem rj {α:Type} (l:List α):((ai l:Nat):Int)=(l.length:Int):=rfl
def Jd:Ct:=SO rK fun l k=> .bo (aU l k)
def Rm:Ct:=SO rK fun l k=> .key (ah l k)
def Gd:Ct:=XK tS eS fun L=> .bo (bu L)
def ZV:Ct:=Jt tS eS (rI .i64) fun L i=> .it .i64 (dA L i)
def aao:Ct:=Jt tS eS (rI .i64) fun L i=> .tp [.ob (aL L i),.it .i64 (dA L i)]
def GV:Ct:=XK tS eS fun L=> .it .i64 (ak L)
def S8:Ct:=Jt tS eS rK fun L k=> .tp [.ob (aa L k),.bo (aU L k)]
def Xz:Ct:=Jt tS eS rK fun L k=> .key (ah L k)
theorem H8 {n:Nat} (h:n<1000):s5 n 8:=by unfold s5;simp only[maxLen];omega
theorem Mz {L:List Obj} {g:Int} (h0:0<=g) (h1:g<(L.length:Int)):jm (mw L g) (aj L g.toNat free)=mw L (g+1):=by
 unfold jm mw aj;rw[show(g+1).toNat=g.toNat+1 by omega,List.take_add_one,aa0,List.getElem?_eq_getElem (by omega)];rfl
theorem Ls {L:List Obj} {g:Int} (h:(L.length:Int)<=g):mw L g=L:=by unfold mw;rw[List.take_of_length_le (by omega)]
theorem M7 {L:List Obj} {g:Int}:ai (mw L g)<=g.toNat:=by unfold ai mw;rw[List.length_take];omega
theorem OZ {L M:List Obj} {g:Int}:ai (iY L M g)<=g.toNat:=by
 unfold ai iY;rw[List.length_map];exact Nat.le_trans (List.length_filter_le _ _) (by rw[List.length_range];omega)
theorem Mg {L M:List Obj} {g:Int} (h0:0<=g) (h:(!CW (aj L g.toNat free) (aj M g.toNat free))=true):jm (iY L M g) g=iY L M (g+1):=by
 unfold jm iY;rw[show(g+1).toNat=g.toNat+1 by omega,List.range_succ,List.filter_append,List.map_append]
 simp only[List.filter_cons,h,if_true,List.filter_nil,List.map_cons,List.map_nil];congr 2
 show g=((g.toNat:Nat):Int)
 omega
theorem UT {L M:List Obj} {g:Int} (h0:0<=g) (h:(!CW (aj L g.toNat free) (aj M g.toNat free))=false):iY L M g=iY L M (g+1):=by
 unfold iY;rw[show(g+1).toNat=g.toNat+1 by omega,List.range_succ,List.filter_append,List.map_append]
 simp only[List.filter_cons,h,Bool.false_eq_true,if_false,List.filter_nil,List.map_nil,List.append_nil]
theorem sq:bu []=true:=rfl
theorem wI {L:List Obj}:bu L=true↔L= []:=by
 unfold bu ai;simp[List.length_eq_zero_iff]
theorem sT (i:Int):dA [] i=1:=rfl
theorem Mr {L:List Obj} (h:bu L=false) (i:Int):dA L i=if i<0\/(L.length:Int)<=i then 4 else 0:=by
 have:L≠ []:=fun e=>by rw[e]at h;simp[sq]at h
 unfold dA ai;rw[aa1 (by simpa[List.length_eq_zero_iff]using this)]
theorem mR {L:List Obj} {i:Int}:dA L i=0↔0<=i/\i<(L.length:Int):=by
 unfold dA ai;split
 ·omega
 ·split<;>omega
theorem BE (L:List Obj) (k:Key):((!aZ k)=true->free=aa L k/\false=aU L k)/\
  ((!aZ k)=false->
    ((!decide (dA L (cy k)=0)|| !cI k (aL L (cy k)))=true->
      free=aa L k/\false=aU L k)/\
      ((!decide (dA L (cy k)=0)|| !cI k (aL L (cy k)))=false->
        aL L (cy k)=aa L k/\true=aU L k)):=by
 have fin:∀b,aU L k=b->(b=false->free=aa L k)/\b=aU L k:=fun b h=>⟨fun hb=>by unfold aa;rw[h,hb];rfl,h.symm⟩
 refine⟨fun h=>?_,fun h=>?_⟩
 ·have h:aZ k=false:=by simpa using h
  have:=fin false (by unfold aU;rw[h];rfl)
  exact⟨this.1 rfl,this.2⟩
 ·have h:aZ k=true:=by simpa using h
  have ho:cy k=k.oid:=by unfold cy;rw[aa2 h]
  rw[ho];by_cases hh:dA L k.oid=0
  ·have hg:aL L k.oid=aj L k.oid.toNat free:=by unfold aL;rw[aa2 hh]
   rw[hg];have e:aU L k=cI k (aj L k.oid.toNat free):=by unfold aU;simp[h,hh]
   refine⟨fun hc=>?_,fun hc=>?_⟩
   ·have hc:cI k (aj L k.oid.toNat free)=false:=by simpa[hh]using hc
    have:=fin false (by rw[e,hc])
    exact⟨this.1 rfl,this.2⟩
   ·have hc:cI k (aj L k.oid.toNat free)=true:=by simpa[hh]using hc
    have:=fin true (by rw[e,hc])
    refine⟨?_,this.2⟩;unfold aa;rw[e,hc];rfl
  ·have:=fin false (by unfold aU;simp[hh])
   exact⟨fun _=>⟨this.1 rfl,this.2⟩,fun hc=>by simp[hh]at hc⟩
theorem Eb (L:List Obj) (k:Key):((bu L|| !decide (bB k=0))=true->void=ah L k)/\
  ((bu L|| !decide (bB k=0))=false->
    ((aZ k&& !aU L k)=true->void=ah L k)/\((aZ k&& !aU L k)=false->k=ah L k)):=by
 have hc:(!decide (bB k=0))= !aV k:=by unfold bB;cases aV k<;>simp
 rw[hc];unfold ah;refine⟨fun h=>?_,fun h=>⟨fun h2=>?_,fun h2=>?_⟩⟩
 ·rw[aa2];simp only[h,Bool.true_or]
 ·rw[aa2];simp only[h2,Bool.or_true]
 ·rw[aa1];simp only[h,h2];simp
theorem Ka {n:Int}:gZ n=true↔1<=n/\n<=64:=by simp[gZ]
theorem Sj {g:Int} (h:0<=g):jm (kh g) free=kh (g+1):=by
 unfold jm kh;rw[show(g+1).toNat=g.toNat+1 by omega,List.replicate_succ']
theorem H6 {i:Int} {o:Obj}:gi [] i o=1:=by unfold gi;rw[sT];rfl
theorem Sp {L:List Obj} {i:Int} {o:Obj} (h:dA L i≠0):gi L i o=dA L i/\cK L i o=L:=by
 unfold gi cK;rw[aa1 h,aa1 (fun hh=>h hh.1)];exact⟨rfl,rfl⟩
theorem Wx {L:List Obj} {i:Int} {o:Obj} (h:dA L i=0) (h2:ej o (ai L:Int)≠0):gi L i o=ej o (ai L:Int)/\cK L i o=L:=by
 unfold gi cK;rw[aa2 h,aa1 (fun hh=>h2 hh.2)];exact⟨rfl,rfl⟩
theorem vf {L:List Obj} {i:Int} {o:Obj} (h:dA L i=0) (h2:ej o (ai L:Int)=0):gi L i o=0/\cK L i o=b6 L i.toNat o:=by
 unfold gi cK;rw[aa2 h,aa2 ⟨h,h2⟩];exact⟨h2,rfl⟩
theorem V1 {c:Bool} {M:List Obj} (hn:c=false) {v:V} {r:List aK} (h:YI c M v r):ya (.tp [ke,.ci .i64 2]) v []:=by
 unfold YI at h;split at h
 ·split at h
  ·split at h
   ·split at h
    ·exact TX (dK h.2)
    ·exact h.elim
   ·split at h
    ·split at h
     ·rw[hn]at h;simp at h
     ·exact h.elim
    ·exact h.elim
   ·exact h.elim
  ·exact h.elim
 ·exact h.elim
theorem T2 {c:Bool} {M:List Obj} (hn:c=true) {v:V} {r:List aK} (h:YI c M v r):∃j b,v= .tp [.lp j 0,b]/\ya (.ci .i64 0) b []/\J1 r j=some (tS,eS,M):=by
 unfold YI at h;split at h
 ·split at h
  ·split at h
   ·split at h
    ·rw[hn]at h;simp at h
    ·exact h.elim
   ·split at h
    ·rename_i hst;split at h
     ·rename_i hc;simp only[aaV,aaX]at hc;obtain⟨⟨rfl,rfl⟩,rfl⟩:=hc;obtain⟨_,h2,rfl⟩:=h;exact⟨_,_,rfl,dK h2,hst⟩
     ·exact h.elim
    ·exact h.elim
   ·exact h.elim
  ·exact h.elim
 ·exact h.elim
theorem SU {c:Bool} {M:List Obj} (hn:c=true) {v:V} {r:List aK} (h:YI c M v r):∃j r',J1 r j=some (tS,eS,M)/\(r'=r\/uI r j=some r')/\az r' j= .store tS eS M/\∀(κ:Nat->Option Nat) (i:Nat),κ j=some i->lu κ v (.tp [.lp i 0,.ci .i64 0]):=by
 obtain⟨j,b,rfl,hb,hst⟩:=T2 hn h
 have ht:∀(κ:Nat->Option Nat) (i:Nat),κ j=some i->lu κ (.tp [.lp j 0,b]) (.tp [.lp i 0,.ci .i64 0]):=fun κ i hi ρ2 ρ3 N N' hv hN hk=>by
  obtain⟨s1,s2,_⟩:=hb ρ2 N;refine⟨?_,hN j i hi hk.1,by simp[ok,cc],trivial⟩
  simp only[den,bz,(hv j i hi).1,s1]
 rcases FI hst with h1|⟨r',h1,h2⟩
 ·exact⟨j,r,hst,.inl rfl,h1,ht⟩
 ·exact⟨j,r',hst,.inr h1,h2,ht⟩
theorem TF {x:V} {M:List Obj} {v:V} {r:List aK} (h:kSt x M v r):∃t,Hc r 0=some (tS,eS,t,M)/\ya x v r:=by
 unfold kSt at h;split at h
 ·rename_i hst;split at h
  ·rename_i hc;simp only[aaV,aaX]at hc;obtain⟨rfl,rfl⟩:=hc;obtain⟨h1,rfl⟩:=h;exact⟨_,hst,dK h1⟩
  ·exact h.elim
 ·exact h.elim
theorem aaQ {P:Program} {f:Nat} {rest:List V} {res:List aK} {K KP:V->List aK->Prop} {k:Nat} {L M:List Obj} {x:V} (hr:az res k= .store tS eS L) (hid:lW rest=true) (hx:kE x=true)
  (h:(∀o∈L,o.wf)->L.length<=9223372036854775807->an P f (.lp 0 0::rest) [.blk tS (.ag [.sa 1]),.obs eS 2 L,.gen 1] (kSt x M) (fun _ _=>False)) (hK:K x (bP res k (.store tS eS M))):an P f (.lp k 0::rest) res K KP:=by
 refine an.DC hr hid hx ?_ hK;refine an.fact (k:=0) rfl fun w1 w2=>?_
 refine an.kF (k:=0) rfl ?_;refine an.shut (h w1 w2) fun v r hv=>?_
 obtain⟨t,h1,h2⟩:=TF hv;obtain⟨r',g1,g2⟩:=AQ h1;exact .inr ⟨0,r',g1,fun J K=>h2 J K,g2⟩
theorem gM {l:List Obj}:CR l=true↔1<=l.length/\l.length<=64/\∀i,i<l.length->bM (aj l i free) (l.length:Int)=true:=by
 unfold CR ai;simp only[aaV,aaW,List.all_eq_true,List.mem_range,and_assoc]
theorem GS (o:Obj) (n:Int):(ej o n=0/\bM o n=true)\/(ej o n=2/\bM o n=false):=by
 unfold ej;cases bM o n<;>simp
theorem lq (k:Key):(aZ k=true/\bf k=k.oid/\0<=k.oid)\/(aZ k=false/\bf k= -1):=by
 have h:bf k=if aZ k then k.oid else -1:=rfl
 cases hn:aZ k
 ·exact .inr ⟨rfl,by rw[h,hn];rfl⟩
 ·refine .inl ⟨rfl,by rw[h,hn];rfl,?_⟩
  unfold aZ at hn;simp only[aaV]at hn;have:=hn.1;simp only[aV,fZ,hn.2,if_true,aaV,aaW]at this;omega
theorem Ej (l:List Obj) (k:Key) (hl:l.length<=9223372036854775807):((decide (0<=bf k)&&decide (bf k<bQ (ai l)))=true->aF IntKind.i64 (bQ (ai l)-1))/\
  ((decide (0<=bf k)&&decide (bf k<bQ (ai l)))=true->
    0<=lT (bf k) (bQ (ai l)-1)/\lT (bf k) (bQ (ai l)-1)< ↑(ai l))/\
    ((decide (0<=bf k)&&decide (bf k<bQ (ai l)))=true->
      (lT (bf k) (bQ (ai l)-1)).toNat<ai l)/\
      (decide (0<=bf k)&&decide (bf k<bQ (ai l))&&
        cI k (aj l (lT (bf k) (bQ (ai l)-1)).toNat free))=
       aU l k:=by
 unfold bQ ai
 have hm:0<=bf k->bf k<(l.length:Int)->lT (bf k) ((l.length:Int)-1)=bf k:=fun h1 h2=>by
  unfold lT;rw[aa1 (by omega)]
 simp only[aaV,aaW];refine⟨fun h=>by simp only[aF,cc];omega,fun h=>by rw[hm h.1 h.2];exact h,fun h=>by rw[hm h.1 h.2];omega,?_⟩
 rcases lq k with⟨h1,h2,h3⟩|⟨h1,h2⟩
 ·by_cases hh:k.oid<(l.length:Int)
  ·rw[hm (by omega) (by omega),h2]
   have h0:dA l k.oid=0:=mR.2 ⟨h3,hh⟩;unfold aU;simp[h1,h0,h3,hh]
  ·have h0:¬dA l k.oid=0:=fun h=>hh (mR.1 h).2
   unfold aU;rw[h2];simp[h0,hh]
 ·unfold aU;simp[h1,h2]
theorem J3 (l:List Obj) (k:Key):((decide (bQ (ai l)=0)|| !decide (bB k=0)||decide (0<=bf k)&& !aU l k)=true->void=ah l k)/\
  ((decide (bQ (ai l)=0)|| !decide (bB k=0)||decide (0<=bf k)&& !aU l k)=false->k=ah l k):=by
 have hc:(!decide (bB k=0))= !aV k:=by unfold bB;cases aV k<;>simp
 have hd:decide (0<=bf k)=aZ k:=by
  rcases lq k with⟨h1,h2,h3⟩|⟨h1,h2⟩
  ·rw[h1,h2];simpa using h3
  ·rw[h1,h2];simp
 have he:decide (bQ (ai l)=0)=bu l:=by
  unfold bu bQ;rw[decide_eq_decide];omega
 rw[hc,hd,he];unfold ah;exact⟨fun h=>by rw[h];rfl,fun h=>by rw[h];rfl⟩
theorem zj {l:List Obj} {k:Key} (h:aU l k=true):0<=bf k/\bf k<(l.length:Int)/\aa l k=aj l (bf k).toNat free:=by
 have h':=h;unfold aU at h;simp only[aaV,aaW]at h;have hb:=mR.1 h.1.2;rcases lq k with⟨h1,h2,h3⟩|⟨h1,h2⟩
 ·rw[h2];exact⟨hb.1,hb.2,by unfold aa;rw[h',aa2 rfl]⟩
 ·rw[h1]at h;simp at h
theorem rE {L M:List Obj} (h:L.length=M.length) (h2:∀j:Nat,j<L.length->aj L j free=aj M j free):L=M:=by
 apply List.ext_getElem h
 intro i h3 h4;have:=h2 i h3;unfold aj at this;simpa[aa0,h3,h4]using this
theorem Lz {L M:List Obj} {g:Int} (hg:p6 L M g) (hge:(ai L:Int)<=g):(decide (g=bQ (ai M))&&decide (ak L=g))=jZ L M:=by
 obtain⟨g0,g1,g2,g3⟩:=hg;have e:g=(L.length:Int):=by unfold ai at *;omega
 subst e;unfold jZ ak bQ ai;cases hd:decide (L=M)with
 |true=>
  have:=aaZ hd;subst this;simp
 |false=>
  have hne:=aaY hd;simp only[decide_true,Bool.and_true,decide_eq_false_iff_not];intro hl;exact hne (rE (by omega) fun j hj=>g3 j (by omega))
end Go.Sx
namespace Go.Proofs.YtlblcfaclmpekaaGreat
open Go.Sx
theorem NC:
 true=bu []:=by
 rfl
theorem LI (L:List Sx.Obj):
 decide (bQ (ai L)=0)=bu L:=by
 unfold bu bQ ai;rw[decide_eq_decide];omega
theorem qw:cz Tryz.prog 42 Gd:=
 OQ (fun _=>rfl) (bc (inl:=bx) (ann:=aQ) ar NC (by kernel_rfl)) (fun L _ _=>bc (inl:=bx) (ann:=aQ) ar (LI L) (by kernel_rfl))
theorem Sf (i:Int):
 (bu []=true->1=dA [] i)/\
  (bu []=false->((!decide (i<0))=true->False)/\((!decide (i<0))=false->4=dA [] i)):=by
 exact⟨fun _=>rfl,fun h=>by simp[sq]at h⟩
theorem SR (L:List Sx.Obj) (i:Int):
 (bu L=true->1=dA L i)/\
  (bu L=false->
   ((decide (i<0)||decide (bQ (ai L)<=i))=true->4=dA L i)/\
     ((decide (i<0)||decide (bQ (ai L)<=i))=false->0=dA L i)):=by
 refine⟨fun h=>?_,fun h=>?_⟩
 ·rw[wI.1 h];rfl
 ·rw[Mr h];unfold bQ ai;refine⟨fun h1=>?_,fun h1=>?_⟩
  ·simp only[Bool.or_eq_true,aaW]at h1;rw[aa2 h1]
  ·simp only[Bool.or_eq_false_iff,decide_eq_false_iff_not]at h1;rw[aa1 (by omega)]
theorem yL:cz Tryz.prog 45 ZV:=
 yz (gq .i64) (fun _ _=>rfl) (fun x _=>bc (inl:=bx) (ann:=aQ) (ae qw ar) (Sf x) (by kernel_rfl)) (fun L x _ _ _=>bc (inl:=bx) (ann:=aQ) (ae qw ar) (SR L x) (by kernel_rfl)) fun _=>rfl
theorem MT:
 (bu []=true->0=ak [])/\(bu []=false->False):=by
 exact⟨fun _=>rfl,fun h=>by simp[sq]at h⟩
theorem Lv (L:List Sx.Obj):
 (bu L=true->0=ak L)/\(bu L=false->bQ (ai L)=ak L):=by
 exact⟨fun h=>by rw[wI.1 h];rfl,fun _=>rfl⟩
theorem bC:cz Tryz.prog 36 GV:=
 OQ (fun _=>rfl) (bc (inl:=bx) (ann:=aQ) (ae qw ar) MT (by kernel_rfl)) (fun L _ _=>bc (inl:=bx) (ann:=aQ) (ae qw ar) (Lv L) (by kernel_rfl))
theorem Ul (i:Int):
 ((!decide (dA [] i=0))=true->free=aL [] i/\dA [] i=dA [] i)/\
   ((!decide (dA [] i=0))=false->False):=by
 exact⟨fun _=>⟨rfl,rfl⟩,fun h=>by simp[sT]at h⟩
theorem SW (L:List Sx.Obj) (i:Int):
 ((!decide (dA L i=0))=true->free=aL L i/\dA L i=dA L i)/\
   ((!decide (dA L i=0))=false->
     (0<=i/\i< ↑(ai L))/\i.toNat<ai L/\i.toNat<ai L/\aj L i.toNat free=aL L i/\0=dA L i):=by
 refine⟨fun h=>⟨?_,rfl⟩,fun h=>?_⟩
 ·unfold aL;rw[aa1 (by simpa using h)]
 ·have h:dA L i=0:=by simpa using h
  have hb:=mR.1 h;unfold aL ai;rw[aa2 h,h];exact⟨hb,by omega,by omega,rfl,rfl⟩
theorem fY:cz Tryz.prog 25 aao:=
 yz (gq .i64) (fun _ _=>rfl) (fun x _=>bc (inl:=bx) (ann:=aQ) (ae yL ar) (Ul x) (by kernel_rfl)) (fun L x _ _ _=>bc (inl:=bx) (ann:=aQ) (ae yL ar) (SW L x) (by kernel_rfl)) fun _=>rfl
theorem Ja (k:Key):
 aba (!aZ k) (free=aa [] k/\false=aU [] k) (aba (!decide (dA [] (cy k)=0)|| !cI k (aL [] (cy k))) (free=aa [] k/\false=aU [] k) (aL [] (cy k)=aa [] k/\true=aU [] k)):=by
 delta aba
 exact BE [] k
theorem Js (L:List Sx.Obj) (k:Key):
 aba (!aZ k) (free=aa L k/\false=aU L k) (aba (!decide (dA L (cy k)=0)|| !cI k (aL L (cy k))) (free=aa L k/\false=aU L k) (aL L (cy k)=aa L k/\true=aU L k)):=by
 delta aba
 exact BE L k
theorem bR:cz Tryz.prog 26 S8:=
 yz gI (fun _ _=>rfl) (fun x _=>bc (inl:=bx) (ann:=aQ) (ae dJ (ae fY (ae Ab ar))) (Ja x) (by kernel_rfl)) (fun L x _ _ _=>bc (inl:=bx) (ann:=aQ) (ae dJ (ae fY (ae Ab ar))) (Js L x) (by kernel_rfl)) fun _=>rfl
theorem XS (n:Int):
 aba (decide (n<1)||decide (64<n)) (gZ n=false/\True) ((∃g,CH n g/\Value.pointer none=Value.pointer none/\n=n/\0=g/\[]=kh g)/\∀(g:Int),CH n g->aba (decide (g<n)) (s5 (ai (kh g)) 8/\aF IntKind.i64 (g+1)/\∃g',CH n g'/\(n-g').toNat<(n-g).toNat/\Value.pointer none=Value.pointer none/\n=n/\g+1=g'/\jm (kh g) free=kh g') (gZ n=true/\True/\kh g=kh n)):=by
 delta aba
 refine⟨fun h=>⟨?_,trivial⟩,fun h=>⟨⟨0,?_,rfl,rfl,rfl,rfl⟩,fun g hg=>⟨fun hlt=>?_,fun hge=>?_⟩⟩⟩
 ·simp only[Bool.or_eq_true,aaW]at h;unfold gZ;rw[Bool.and_eq_false_iff,decide_eq_false_iff_not,decide_eq_false_iff_not];omega
 ·simp only[Bool.or_eq_false_iff,decide_eq_false_iff_not]at h;exact⟨by omega,by omega⟩
 ·simp only[Bool.or_eq_false_iff,decide_eq_false_iff_not]at h;obtain⟨g0,g1⟩:=hg;have hlt:=aaZ hlt;refine⟨?_,?_,g+1,⟨by omega,by omega⟩,by omega,rfl,rfl,rfl,Sj g0⟩
  ·unfold s5 ai kh;simp only[List.length_replicate,maxLen];omega
  ·simp only[aF,cc];omega
 ·simp only[Bool.or_eq_false_iff,decide_eq_false_iff_not]at h;obtain⟨g0,g1⟩:=hg;have hge:=aaY hge;exact⟨Ka.2 (by omega),trivial,by rw[show g=n by omega]⟩
theorem QK (n:Int):an Tryz.prog 28 [.it .i64 n] [] (aaK n) (fun _ _=>False):=bc (inl:=bx) (ann:=(iJ [(28,5,lpB [2,3,4,13] (fun g=> [(14,.it .i64 g)]) 0 tS eS kh (CH n) n)])) ar (XS n) (by kernel_rfl)
theorem Mh:lh Tryz.prog 28 Vt:=by
 intro args res K KP h;unfold Vt at h;split at h
 ·split at h
  ·rename_i n hn;refine an.args (ff.rd (gq .i64) hn ff.nil) ?_;cases hb:gZ n with
   |false=>exact an.pure rfl rfl ((QK n).mono (fun v r hv=>V1 hb hv) fun _ _ h=>h) (h.1 hb)
   |true=>
    refine an.Up (F:=fun j=> .tp [.lp j 0,.ci .i64 0]) rfl ?_ (h.2 hb)
    refine an.shut (QK n) fun v r hv=>?_
    obtain⟨j,r',_,h1,h2,h3⟩:=SU hb hv;rcases h1 with rfl|h1
    ·exact .inl ⟨j,h2,h3⟩
    ·exact .inr ⟨j,r',h1,j,h2,h3⟩
  ·exact h.elim
 ·exact h.elim
theorem S3 (i:Int) (o:Sx.Obj):
 ((!decide (dA [] i=0))=true->dA [] i=gi [] i o)/\((!decide (dA [] i=0))=false->False):=by
 refine⟨fun _=>?_,fun h=>by simp[sT]at h⟩
 rw[H6,sT]
theorem Ue (i:Int) (o:Sx.Obj):an Tryz.prog 30 [ke,.it .i64 i,.ob o] [] (oW (.it .i64 (gi [] i o))) (fun _ _=>False):=bc (inl:=bx) (ann:=aQ) (ae yL (ae CJ ar)) (S3 i o) (by kernel_rfl)
theorem Tg (L:List Sx.Obj) (i:Int) (o:Sx.Obj):
 aba (!decide (dA L i=0)) (dA L i=gi L i o/\L=cK L i o) (aba (!decide (ej o (bQ (ai L))=0)) (ej o (bQ (ai L))=gi L i o/\L=cK L i o) ((0<=i/\i< ↑(ai L))/\i.toNat<ai L/\0=gi L i o/\b6 L i.toNat o=cK L i o)):=by
 delta aba
 refine⟨fun h=>?_,fun h=>⟨fun h2=>?_,fun h2=>?_⟩⟩
 ·obtain⟨a,b⟩:=Sp (o:=o) (show dA L i≠0 by simpa using h)
  rw[a,b];exact⟨rfl,rfl⟩
 ·obtain⟨a,b⟩:=Wx (o:=o) (show dA L i=0 by simpa using h) (show ej o (ai L:Int)≠0 by unfold bQ at h2;simpa using h2)
  rw[a,b];exact⟨rfl,rfl⟩
 ·have h:=(show dA L i=0 by simpa using h)
  have hb:=mR.1 h;obtain⟨a,b⟩:=vf (o:=o) h (show ej o (ai L:Int)=0 by unfold bQ at h2;simpa using h2)
  rw[a,b];exact⟨hb,by unfold ai;omega,rfl,rfl⟩
theorem UD (L:List Sx.Obj) (i:Int) (o:Sx.Obj):an Tryz.prog 30 [.lp 0 0,.it .i64 i,.ob o] [.blk tS (.ag [.sa 1]),.obs eS 2 L,.gen 1] (kSt (.it .i64 (gi L i o)) (cK L i o)) (fun _ _=>False):=bc (inl:=bx) (ann:=aQ) (ae yL (ae CJ ar)) (Tg L i o) (by kernel_rfl)
theorem UG (i:Int) (o:Sx.Obj):
 ((!decide (dA [] i=0))=true->dA [] i=gi [] i o)/\
   ((!decide (dA [] i=0))=false->
     ((!decide (ej o 0=0))=true->ej o 0=gi [] i o)/\((!decide (ej o 0=0))=false->False)):=by
 refine⟨fun _=>?_,fun h=>by simp[sT]at h⟩
 rw[H6,sT]
theorem TI (i:Int) (o:Sx.Obj):an Tryz.prog 30 [.lp 0 0,.it .i64 i,.ob o] [.ro (.blk tS (.ag [.nl (.slice none 0 0)]))] (oW (.it .i64 (gi [] i o))) (fun _ _=>False):=bc (inl:=bx) (ann:=aQ) (ae yL (ae CJ ar)) (UG i o) (by kernel_rfl)
theorem dB:lh Tryz.prog 30 Vo:=by
 intro args res K KP h;unfold Vo at h;split at h
 ·split at h
  ·rename_i i hi;split at h
   ·rename_i o ho;refine an.args (ff.j4 (ff.rd (gq .i64) hi (ff.rd Bh ho ff.nil))) ?_;split at h
    ·split at h
     ·exact an.pure rfl rfl ((Ue i o).mono (fun _ _ h=>dK h) fun _ _ h=>h) h
     ·exact h.elim
    ·split at h
     ·rename_i hoff;have hoff:=aaX.1 hoff;subst hoff;split at h
      ·rename_i hr;split at h
       ·rename_i hc;simp only[aaV,aaX]at hc;obtain⟨rfl,rfl⟩:=hc;exact aaQ hr rfl rfl (fun _ _=>UD _ i o) h
       ·exact h.elim
      ·rename_i hr;split at h
       ·rename_i hc;simp only[aaV,aaX]at hc;obtain⟨rfl,hz⟩:=hc;have:=ze hz;subst this;refine an.K2 (r0:= .blk tS (.ag [.nl (.slice none 0 0)])) (by unfold cP;rw[hr]) (by simp) (fun κ=>rfl) rfl rfl ((TI i o).mono (fun _ _ h=>dK h) fun _ _ h=>h) h
       ·exact h.elim
      ·exact h.elim
     ·exact h.elim
    ·exact h.elim
   ·exact h.elim
  ·exact h.elim
 ·exact h.elim
theorem G0 (l:List Sx.Obj) (k:Key) (hl:l.length<=9223372036854775807):
 ((decide (0<=bf k)&&decide (bf k<bQ (ai l)))=true->aF IntKind.i64 (bQ (ai l)-1))/\((decide (0<=bf k)&&decide (bf k<bQ (ai l)))=true->0<=lT (bf k) (bQ (ai l)-1)/\lT (bf k) (bQ (ai l)-1)< ↑(ai l))/\((decide (0<=bf k)&&decide (bf k<bQ (ai l)))=true->(lT (bf k) (bQ (ai l)-1)).toNat<ai l)/\(decide (0<=bf k)&&decide (bf k<bQ (ai l))&&cI k (aj l (lT (bf k) (bQ (ai l)-1)).toNat free))=aU l k:=by
 exact Ej l k hl
theorem mf:cz Tryz.prog 72 Jd:=Hp gI (fun _ _=>rfl) (fun l k _ hl _=>bc (inl:=bx) (ann:=aQ) (ae pR (ae Ha ar)) (G0 l k hl) (by kernel_rfl)) fun _=>rfl
end Go.Proofs.YtlblcfaclmpekaaGreat
namespace Go.Sx
def gX (r b:Int):Bool:=decide ((r.tdiv b).tmod 2=1)
def gD (r m g:Int):Int:=(if 2<=g/\(gX r 1||gX m 1)=true then 1 else 0)+(if 4<=g/\(gX r 2||gX m 2)=true then 2 else 0)+(if 8<=g/\(gX r 4||gX m 4)=true then 4 else 0)
def iD (r m:Int):Int:=gD r m 8
def kZ (g:Int):Prop:=g=1\/g=2\/g=4\/g=8
def dn (k:Key) (r:Int):Key:= {k with rights:=r}
def kT (k:Key):Key:=if k.kind=2 then dn k (iD k.rights 3)else if k.kind=3 then dn k 1 else if k.kind=1\/k.kind=8 then k else void
def iX (k:Key):Key:=if aV k then kT k else void
def R8:Ct:=Se (rI .i64) (rI .i64) fun r m=> .it .i64 (iD r m)
def Tc:Ct:=QQ rK fun k=> .key (kT k)
def Mf:Ct:=QQ rK fun k=> .tp [.key (iX k),.it .i64 (bB k)]
def aB (L:List Obj) (k:Key) (kind:Int) (c:Bool):Int:=if ai L=0 then 1 else if(!aU L k|| !decide (k.kind=kind))=true then 190 else if(c&& !decide (k.rights.tmod 4=0))=true then 191 else 0
def si (k:Key):Bool:=decide ((k.rights.tdiv 2).tmod 2=1)
def jB (L:List Obj) (o:Obj) (k:Key) (i:Int):Key:=if si k then kT (ah L (o.slots.at i.toNat))else ah L (o.slots.at i.toNat)
def di (L:List Obj) (k:Key) (i:Int):Key:=jB L (aj L k.oid.toNat free) k i
def o8 (k:Key) (i:Int):Prop:=0<=i/\i<16/\aV k=true
def oL (L:List Obj) (k:Key) (i:Int):Prop:=0<=i/\i<16/\0<=k.oid/\k.oid<(ai L:Int)
def ko (i:Int):Bool:=decide (0<=i)&&decide (i<16)
def bY (L:List Obj) (k:Key) (i:Int):Int:=if aB L k 2 false=0 then(if ko i then 0 else 4)else aB L k 2 false
def aJ (L:List Obj) (k:Key) (i:Int):Key:=if bY L k i=0 then di L k i else void
def bJ (L:List Obj) (v:Key):Bool:=aV v&&decide (bf v<(ai L:Int))
def bj (L:List Obj) (k:Key) (i:Int) (v:Key):Int:=if aB L k 2 true=0 then(if ko i then(if bJ L v then 0 else 2)else 4)else aB L k 2 true
def cT (L:List Obj) (k:Key) (i:Int) (v:Key):Key:=if bj L k i v=0 then di L k i else void
def ew (o:Obj) (s:cZ):Obj:= {o with slots:=s}
def tX (L:List Obj) (k:Key) (s:cZ):List Obj:=b6 L k.oid.toNat (ew (aj L k.oid.toNat free) s)
def cC (L:List Obj) (k:Key) (i:Int) (v:Key):List Obj:=if bj L k i v=0 then tX L k ((aj L k.oid.toNat free).slots.put i.toNat (ah L v))else L
def fA (L:List Obj) (k:Key):List Obj:=if aB L k 2 true=0 then tX L k g9 else L
def bT (L:List Obj) (t f:Key):Int:=if aB L t 2 true=0 then aB L f 2 false else aB L t 2 true
def dH (L:List Obj) (t f:Key) (g:Int):cZ:=(List.range g.toNat).foldl (fun s (j:Nat)=>s.put j (di L f (j:Int))) (aj L t.oid.toNat free).slots
def eT (L:List Obj) (t f:Key):List Obj:=if bT L t f=0 then tX L t (dH L t f 16)else L
def aq (L:List Obj):Prop:=CR L=true
def lD (g:Int):Prop:=0<=g/\g<=16
def kA:Arg Key:=Fw rK V.key
def iA:Arg Int:=Fw (rI .i64) (V.it .i64)
def bA:Arg Bool:=Fw toBool V.bo
def oA:Arg Obj:=Fw rO V.ob
def sA:Arg (Option (List Obj)):=stA tS eS
def DG (o:Option (List Obj)):List Obj:=match o with
 |none=> []
 |some L=>L
def nB:ly (Obj×Option (List Obj)×Key×Unit):=ba oA (ba sA (ba kA gJ))
def Xu:Ct:=s7 (ba (YF nB) (ba iA gJ)) (fun x=>some (o8 x.1.2.2.1 x.2.1)) fun x=> .key (jB (DG x.1.2.1) x.1.1 x.1.2.2.1 x.2.1)
def R7:Ct:=s7 (ba AE (ba kA (ba iA (ba bA gJ)))) (fun _=>none) fun x=> .it .i64 (aB x.1 x.2.1 x.2.2.1 x.2.2.2.1)
def XE:Ct:=s7 (ba AE (ba kA (ba iA gJ))) (fun x=>some (oL x.1 x.2.1 x.2.2.1)) fun x=> .key (di x.1 x.2.1 x.2.2.1)
def Y9:Ct:=s7 (ba AE (ba kA gJ)) (fun _=>none) fun x=> .bo (bJ x.1 x.2.1)
def X8:Ct:=s7 (ba sA (ba kA (ba iA gJ))) (fun _=>none) fun x=> .tp [.key (aJ (DG x.1) x.2.1 x.2.2.1),.it .i64 (bY (DG x.1) x.2.1 x.2.2.1)]
def dO (L:List Obj) (i:Int):Prop:=0<=i/\i<(ai L:Int)/\ai L<=1000
def tO:Nat:=74
def VR:Ct:=Rx (ba AE (ba iA (ba oA gJ))) (fun x=>some (dO x.1 x.2.1)) (fun _ n=> .sa n) fun x _=> [.arr (some tO) 163 (.ob (b6 x.1 (qf x.2.1) x.2.2.1))]
theorem uE {r g:Int} (hr:cc .i64 r) (hg:g=1\/g=2\/g=4\/g=8):cc .i64 (r.tdiv g):=by
 simp only[cc]at *;rcases Int.le_total 0 r with h|h
 ·rw[Int.tdiv_eq_ediv_of_nonneg h];rcases hg with rfl|rfl|rfl|rfl<;>omega
 ·obtain⟨s,rfl⟩:∃s,r= -s:=⟨-r,by omega⟩
  rw[Int.neg_tdiv,Int.tdiv_eq_ediv_of_nonneg (by omega)]
  rcases hg with rfl|rfl|rfl|rfl<;>omega
theorem pq (x:Int):cc .i64 (x.tmod 2):=by
 have h1:=Int.tmod_lt_of_pos x (show(0:Int)<2 by omega)
 have h2:=Int.lt_tmod_of_pos x (show(0:Int)<2 by omega)
 simp only[cc];omega
theorem EP {r m g:Int}:0<=gD r m g/\gD r m g<=7:=by
 unfold gD;repeat' split
 all_goals omega
theorem OB {r:Int} (h0:0<=r) (h1:r<=7):bk .or .i64 r 3=iD r 3:=by
 have:r=0\/r=1\/r=2\/r=3\/r=4\/r=5\/r=6\/r=7:=by omega
 rcases this with rfl|rfl|rfl|rfl|rfl|rfl|rfl|rfl<;>decide
theorem Fg {r:Int} (h0:0<=r) (h1:r<=1):bk .or .i64 r 1=1:=by
 have:r=0\/r=1:=by omega
 rcases this with rfl|rfl<;>decide
theorem jj {k:Key} (h:aV k=true):0<=k.rights/\k.rights<=fy k.kind:=by
 simp only[aV,aaV,aaW]at h;omega
theorem qq:aV void=true:=by decide
theorem qi (L:List Obj) (k:Key):aV (ah L k)=true:=by
 unfold ah;split
 ·exact qq
 ·rename_i h;simp only[Bool.or_eq_true,not_or,Bool.not_eq_true,Bool.not_eq_false']at h;exact h.1.2
theorem E8 (L:List Obj) (k:Key):iX (ah L k)=kT (ah L k):=by unfold iX;rw[qi,aa2 rfl]
theorem aaP {r:Int} (h0:0<=r) (h1:r<=7):decide (bk .and .i64 r 2=0)= !decide ((r.tdiv 2).tmod 2=1):=by
 have:r=0\/r=1\/r=2\/r=3\/r=4\/r=5\/r=6\/r=7:=by omega
 rcases this with rfl|rfl|rfl|rfl|rfl|rfl|rfl|rfl<;>decide
theorem Tj {r:Int} (h0:0<=r) (h1:r<=7):decide (bk .and .i64 r 3=0)=decide (r.tmod 4=0):=by
 have:r=0\/r=1\/r=2\/r=3\/r=4\/r=5\/r=6\/r=7:=by omega
 rcases this with rfl|rfl|rfl|rfl|rfl|rfl|rfl|rfl<;>decide
theorem R4 (n:Int):fy n<=7:=by unfold fy;split<;>(try split)<;>omega
theorem pk {k:Key} (h:aV k=true):0<=k.rights/\k.rights<=7:=by
 have:=jj h;have:=R4 k.kind;omega
theorem ei {L:List Obj} {k:Key} (h:aU L k=true):aV k=true/\0<=k.oid/\k.oid<(L.length:Int)/\aa L k=aj L k.oid.toNat free/\(aj L k.oid.toNat free).kind=gz k:=by
 have h':=h;unfold aU at h;simp only[aaV,aaW]at h;obtain⟨⟨h1,h2⟩,h3⟩:=h;have hb:=mR.1 h2;have hn:0<=bf k:=(zj h').1;simp only[cI,aaV,Bool.or_eq_true,aaW]at h3;refine⟨h3.1,hb.1,hb.2,by unfold aa;rw[h',aa2 rfl],?_⟩
 rcases h3.2 with h|h
 ·omega
 ·exact h.1.1
theorem IH {L:List Obj} {o:Obj} {k:Key} {i:Int} (hq:o8 k i):(0<=i/\i< ↑16)/\
  ((!decide (bk BinOp.and IntKind.i64 k.rights 2=0))=true->iX (ah L (o.slots.at i.toNat))=jB L o k i)/\
    ((!decide (bk BinOp.and IntKind.i64 k.rights 2=0))=false->ah L (o.slots.at i.toNat)=jB L o k i):=by
 obtain⟨h0,h1,h2⟩:=hq;have hr:=pk h2;rw[aaP hr.1 hr.2,E8];unfold jB si;refine⟨⟨h0,by omega⟩,fun h=>?_,fun h=>?_⟩
 ·rw[aa2 (by simpa using h)]
 ·rw[aa1 (by simpa using h)]
theorem gw {L:List Obj} {k:Key} {d:Int} {c:Bool} (h:aB L k d c=0):aU L k=true/\k.kind=d/\(c=true->k.rights.tmod 4=0):=by
 unfold aB at h;split at h
 ·omega
 ·split at h
  ·omega
  ·rename_i h2;simp only[Bool.or_eq_true,Bool.not_eq_true',decide_eq_false_iff_not,not_or,Bool.not_eq_false,Decidable.not_not]at h2;split at h
   ·omega
   ·rename_i h3;refine⟨h2.1,h2.2,fun hc=>?_⟩
    simpa[hc]using h3
theorem iI:m8 kA:=sm gI (fun _=>rfl) fun v x h=>Y5 h
theorem NG:m8 oA:=sm Bh (fun _=>rfl) fun v x h=>by cases v<;>simp[rO]at h;rfl
theorem Fa:m8 bA:=sm PD (fun _=>rfl) fun v x h=>by cases v<;>simp[toBool]at h<;>rfl
theorem dE:m8 iA:=sm (gq .i64) (fun _=>rfl) fun v x h=>by cases v<;>simp[rI,toInt]at h<;>rfl
theorem tk:m8 sA:=Yn _ _
theorem Zu:gR nB:=aA NG (aA tk (aA iI bV))
def CA (x:V) (M:List Obj) (v:V) (r:List aK):Prop:=
 match az r 0 with
 | .store t e L=>if t==tS&&e==eS then oW x v r/\L=M else False
 |_=>False
theorem Hg {x:V} {M:List Obj} {v:V} {r:List aK} (h:CA x M v r):ya x v r/\az r 0= .store tS eS M:=by
 unfold CA at h;split at h
 ·rename_i hr;split at h
  ·rename_i hc;simp only[aaV,aaX]at hc;obtain⟨rfl,rfl⟩:=hc;obtain⟨h1,rfl⟩:=h;exact⟨dK h1,hr⟩
  ·exact h.elim
 ·exact h.elim
def JV {α:Type} (B:List V->Option α) (Q:List Obj->α->Prop) (F:List Obj->α->V) (M:List Obj->α->List Obj):kq:=fun args res K=>
 match args with
 |a::l=>match B l with
  |some x=>match a with
   | .nl v=>match v with
     | .pointer none=>K (F [] x) res
     |_=>False
   | .lp k off=>if off==0 then match az res k with
     | .store t e L=>if t==tS&&e==eS then Q L x/\K (F L x) (bP res k (.store tS eS (M L x)))else False
     | .blk t c=>if t==tS&&Y3 c then K (F [] x) res else False
     |_=>False
     else False
   |_=>False
  |none=>False
 |_=>False
def zst:V:= .ag [.nl (.slice none 0 0)]
theorem od {P:Program} {f:Nat} {α:Type} {B:List V->Option α} {m:α->List V} {Q:List Obj->α->Prop} {F:List Obj->α->V} {M:List Obj->α->List Obj} (hB:∀l x,B l=some x->ff l (m x)) (hid:∀x,lW (m x)=true) (hF:∀L x,kE (F L x)=true)
  (h0:∀x,an P f (ke::m x) [] (oW (F [] x)) (fun _ _=>False)) (hz:∀x,an P f (.lp 0 0::m x) [.ro (.blk tS zst)] (oW (F [] x)) (fun _ _=>False))
  (h1:∀L x,Q L x->(∀o∈L,o.wf)->L.length<=9223372036854775807->an P f (.lp 0 0::m x) [.store tS eS L] (CA (F L x) (M L x)) (fun _ _=>False)):lh P f (JV B Q F M):=by
 intro args res K KP h;unfold JV at h;split at h
 case h_2=>exact h.elim
 split at h
 case h_2=>exact h.elim
 rename_i x hx;refine an.args (ff.j4 (hB _ _ hx)) ?_;split at h
 ·split at h
  ·exact an.pure (by simp only[lW,kE,Bool.true_and];exact hid x) (hF _ _) ((h0 x).mono (fun _ _ h=>dK h) fun _ _ h=>h) h
  ·exact h.elim
 ·split at h
  ·rename_i hoff;have hoff:=aaX.1 hoff;subst hoff;split at h
   ·rename_i hr;split at h
    ·rename_i hc;simp only[aaV,aaX]at hc;obtain⟨rfl,rfl⟩:=hc;refine an.DC hr (hid x) (hF _ _) (an.fact (k:=0) rfl fun w1 w2=>(h1 _ x h.1 w1 w2).mono (fun v r hv=>Hg hv |> fun⟨a,b⟩=>⟨fun J K=>a J K,b⟩) fun _ _ h=>h) h.2
    ·exact h.elim
   ·rename_i hr;split at h
    ·rename_i hc;simp only[aaV,aaX]at hc;obtain⟨rfl,hz'⟩:=hc;have:=ze hz';subst this;exact an.K2 (r0:= .blk tS zst) (by unfold cP;rw[hr];rfl) (by simp) (fun κ=>rfl) (hid x) (hF _ _) ((hz x).mono (fun _ _ h=>dK h) fun _ _ h=>h) h
    ·exact h.elim
   ·exact h.elim
  ·exact h.elim
 ·exact h.elim
def rdK (l:List V):Option Key:=match l with
 | [a]=>rK a
 |_=>none
def SH (l:List V):Option (Key×Key):=match l with
 | [a,b]=>match rK a with
   |some k=>match rK b with
    |some k'=>some (k,k')
    |none=>none
   |none=>none
 |_=>none
def KN (l:List V):Option (Key×Int×Key):=match l with
 | [a,b,c]=>match rK a with
   |some k=>match rI .i64 b with
    |some i=>match rK c with
     |some k'=>some (k,i,k')
     |none=>none
    |none=>none
   |none=>none
 |_=>none
theorem N8:∀l x,rdK l=some x->ff l [.key x]:=fun l x h=>by
 unfold rdK at h;split at h
 ·exact ff.rd gI h ff.nil
 ·simp at h
theorem IU:∀l x,SH l=some x->ff l [.key x.1,.key x.2]:=fun l x h=>by
 unfold SH at h;split at h
 ·split at h
  ·rename_i h1;split at h<;>simp only[aaT,reduceCtorEq]at h
   rename_i h2;subst h;exact ff.rd gI h1 (ff.rd gI h2 ff.nil)
  ·simp at h
 ·simp at h
theorem LQ:∀l x,KN l=some x->ff l [.key x.1,.it .i64 x.2.1,.key x.2.2]:=fun l x h=>by
 unfold KN at h;split at h
 ·split at h
  ·rename_i h1;split at h
   ·rename_i h2;split at h<;>simp only[aaT,reduceCtorEq]at h
    rename_i h3;subst h;exact ff.rd gI h1 (ff.rd (gq .i64) h2 (ff.rd gI h3 ff.nil))
   ·simp at h
  ·simp at h
 ·simp at h
def tK:Nat:=44
def oU (g:Int):Nat:=(16-g).toNat
def XM:kq:=JV KN (fun L _=>aq L) (fun L x=> .tp [.key (cT L x.1 x.2.1 x.2.2),.it .i64 (bj L x.1 x.2.1 x.2.2)]) fun L x=>cC L x.1 x.2.1 x.2.2
def VW:kq:=JV rdK (fun L _=>aq L) (fun L x=> .it .i64 (aB L x 2 true)) fun L x=>fA L x
def Xw:kq:=JV SH (fun L _=>aq L) (fun L x=> .it .i64 (bT L x.1 x.2)) fun L x=>eT L x.1 x.2
theorem PE {L:List Obj} {k:Key} {d:Int} {c:Bool} (h:(!decide (0<ak L))=true):aB L k d c=1:=by
 unfold aB;unfold ak at h;rw[aa2 (by simp at h;omega)]
theorem Jx {L:List Obj} {k:Key} {d:Int} {c:Bool} (h:(!decide (0<ak L))=false) (h2:(!(aU L k&&decide (k.kind=d)))=true):aB L k d c=190:=by
 unfold aB;unfold ak at h;rw[aa1 (by simp at h;omega),aa2 (by simpa using h2)]
theorem nO {L:List Obj} {k:Key} {d:Int} (h2:(!(aU L k&&decide (k.kind=d)))=false):aU L k=true/\k.kind=d:=by simpa using h2
theorem XI {L:List Obj} {k:Key} {d:Int} (h:(!decide (0<ak L))=false) (h2:(!(aU L k&&decide (k.kind=d)))=false) (h3:(!decide (bk BinOp.and IntKind.i64 k.rights 3=0))=true):aB L k d true=191:=by
 have hr:=pk (ei (nO h2).1).1;rw[Tj hr.1 hr.2]at h3;unfold aB;unfold ak at h;rw[aa1 (by simp at h;omega),aa1 (by simpa using h2),aa2 (by simpa using h3)]
theorem JS {L:List Obj} {k:Key} {d:Int} (h:(!decide (0<ak L))=false) (h2:(!(aU L k&&decide (k.kind=d)))=false) (h3:(!decide (bk BinOp.and IntKind.i64 k.rights 3=0))=false):aB L k d true=0:=by
 have hr:=pk (ei (nO h2).1).1;rw[Tj hr.1 hr.2]at h3;unfold aB;unfold ak at h;rw[aa1 (by simp at h;omega),aa1 (by simpa using h2),aa1 (by simpa using h3)]
theorem HY {L:List Obj} {k:Key} {d:Int} (h:(!decide (0<ak L))=false) (h2:(!(aU L k&&decide (k.kind=d)))=false):aB L k d false=0:=by
 unfold aB;unfold ak at h;rw[aa1 (by simp at h;omega),aa1 (by simpa using h2),aa1 (by simp)]
def dF (n:Int) (k:Key):Prop:=aV k=true/\bf k<n
theorem LS {n:Int} {k:Key}:mM 1 n k=true↔dF n k:=by simp[mM,dF]
theorem O1 (r:Int):0<=iD r 3/\iD r 3<=7:=EP
theorem OJ {n:Int} (hn:0<=n) {k:Key} (h:dF n k):dF n (kT k):=by
 obtain⟨h1,h2⟩:=h;have hv:dF n void:=⟨qq,by have:=nb.2;omega⟩
 unfold kT;split
 ·rename_i e;have hw:=O1 k.rights
  have h1':aV (dn k (iD k.rights 3))=true:=by
   simp only[aV,dn,e,aaV,aaW]at h1⊢;have:fy 2=7:=rfl;grind
  refine⟨h1',?_⟩;unfold bf at h2⊢;rw[h1'];rw[h1]at h2;exact h2
 ·split
  ·rename_i e
   have h1':aV (dn k 1)=true:=by
    simp only[aV,dn,e,aaV,aaW]at h1⊢;have:fy 3=1:=rfl;grind
   refine⟨h1',?_⟩;unfold bf at h2⊢;rw[h1'];rw[h1]at h2;exact h2
  ·split
   ·exact⟨h1,h2⟩
   ·exact hv
theorem pN {L:List Obj} (hL:0<L.length) (k:Key):dF (L.length:Int) (ah L k):=by
 have hv:dF (L.length:Int) void:=⟨qq,by have:=nb.2;omega⟩
 unfold ah;split
 ·exact hv
 ·rename_i h;simp only[Bool.or_eq_true,not_or,Bool.not_eq_true,Bool.not_eq_false',Bool.and_eq_false_imp]at h;refine⟨h.1.2,?_⟩;rcases lq k with⟨a,b,c⟩|⟨a,b⟩
  ·rw[b];exact(ei (h.2 a)).2.2.1
  ·omega
theorem Uv {L:List Obj} (hL:0<L.length) (k:Key) (i:Int):dF (L.length:Int) (di L k i):=by
 unfold di jB;split
 ·exact OJ (by omega) (pN hL _)
 ·exact pN hL _
theorem zF {o:Obj} {n:Int} {s:cZ} (h:bM o n=true) (hk:o.kind=1) (hs:∀i,i<16->dF n (s.at i)):bM (ew o s) n=true:=by
 rw[fo]at h⊢;simp only[ew];obtain⟨a1,a2,a3,a4,a5,a6,a7,a8,a9,a10,a11⟩:=h;exact⟨a1,a2,a3,a4,a5,a6,a7,a8,a9,fun i hi=>by rw[hk];exact LS.2 (hs i hi),fun i hi=> .inl (.inl hk)⟩
theorem BZ {L:List Obj} {k:Key} (h:aU L k=true) (h2:k.kind=2):(aj L k.oid.toNat free).kind=1:=by
 rw[(ei h).2.2.2.2];unfold gz;rw[aa1 (by have:=(zj h).1;omega),aa1 (by omega)]
theorem uh {L:List Obj} {k:Key} (hL:aq L) (h:aU L k=true) (h2:k.kind=2):∀i,i<16->dF (L.length:Int) ((aj L k.oid.toNat free).slots.at i):=fun i hi=>by
 obtain⟨_,b2,b3,_⟩:=ei h;have:=(gM.1 hL).2.2 k.oid.toNat (by omega)
 have:=(fo.1 this).2.2.2.2.2.2.2.2.2.1 i hi;rw[BZ h h2]at this;exact LS.1 this
theorem pB {L:List Obj} {k:Key} {s:cZ} (hL:aq L) (h:aU L k=true) (h2:k.kind=2) (hs:∀i,i<16->dF (L.length:Int) (s.at i)):cK L k.oid (ew (aa L k) s)=tX L k s/\aq (tX L k s):=by
 obtain⟨b1,b2,b3,b4,_⟩:=ei h;have hr:=gM.1 hL;have ho:=zF (hr.2.2 k.oid.toNat (by omega)) (BZ h h2) hs
 refine⟨?_,?_⟩
 ·rw[b4];exact(vf (mR.2 ⟨b2,b3⟩) (uJ ho).symm).2
 ·refine gM.2 ?_;unfold tX;have hl:(b6 L k.oid.toNat (ew (aj L k.oid.toNat free) s)).length=L.length:=by simp[b6]
  rw[hl];refine⟨hr.1,hr.2.1,fun i hi=>?_⟩
  by_cases e:i=k.oid.toNat
  ·subst e;rw[show aj (b6 L k.oid.toNat (ew (aj L k.oid.toNat free) s)) k.oid.toNat free=ew (aj L k.oid.toNat free) s by simp[aj,b6,aa0,hi]]
   exact ho
  ·rw[show aj (b6 L k.oid.toNat (ew (aj L k.oid.toNat free) s)) i free=aj L i free by simp[aj,b6,aa0,List.getElem?_set,Ne.symm e]]
   exact hr.2.2 i hi
theorem EU {L:List Obj} {k:Key} {i:Int} {v:Key} (hL:aq L) (h:aU L k=true) (h2:k.kind=2) (h0:0<=i) (h1:i<16):∀j,j<16->dF (L.length:Int) (((aj L k.oid.toNat free).slots.put i.toNat (ah L v)).at j):=fun j hj=>by
 rw[cZ.gd _ _ _ _ (by omega)]
 split
 ·exact pN (gM.1 hL).1 v
 ·exact uh hL h h2 j hj
theorem Hr {n:Int} (hn:0<=n):∀j,j<16->dF n (g9.at j):=fun j hj=>by
 rw[Hx.1 rfl j hj];exact⟨qq,by have:=nb.2;omega⟩
theorem uO (L:List Obj) (v:Key):(decide (bB v=0)&&(!aZ v||decide (cy v<ak L)))=bJ L v:=by
 unfold bJ bB cy ak;rcases lq v with⟨a,b,c⟩|⟨a,b⟩
 ·rw[a,b];cases aV v<;>simp
 ·rw[a,b];have:(-1:Int)<(ai L:Int):=by omega
  cases aV v<;>simp[this]
theorem BM {L:List Obj} {t f:Key} {g:Int} (h0:0<=g):dH L t f (g+1)=(dH L t f g).put g.toNat (di L f g):=by
 unfold dH;rw[show(g+1).toNat=g.toNat+1 by omega,List.range_succ,List.foldl_append]
 simp only[List.foldl_cons,List.foldl_nil];rw[show((g.toNat:Nat):Int)=g by omega]
theorem DU {L:List Obj} {t f:Key} (h:aa L t=aj L t.oid.toNat free):aa L t=ew (aa L t) (dH L t f 0):=by
 unfold dH ew;simp[h]
theorem DR {L:List Obj} {t f:Key} {g:Int} (h0:0<=g) (h:aa L f=aj L f.oid.toNat free) (o:Obj) (s:cZ):({kind:=(ew o (dH L t f g)).kind,count:=(ew o (dH L t f g)).count,calls:=(ew o (dH L t f g)).calls,slots:=(ew o (dH L t f g)).slots.put g.toNat (jB L (aa L f) f g),bytes:=(ew o (dH L t f g)).bytes}:Obj)=ew o (dH L t f (g+1)):=by
 rw[BM h0];unfold di;rw[h];rfl
theorem yZ {L:List Obj} {t f:Key} (hL:aq L) (h:aU L t=true) (h2:t.kind=2):∀n:Nat,n<=16->∀j,j<16->dF (L.length:Int) ((dH L t f n).at j)
 |0,_,j,hj=>by
  unfold dH;exact uh hL h h2 j hj
 |n+1,hn,j,hj=>by
  rw[show((n+1:Nat):Int)=(n:Int)+1 by omega,BM (by omega),cZ.gd _ _ _ _ (by omega)]
  split
  ·exact Uv (gM.1 hL).1 _ _
  ·exact yZ hL h h2 n (by omega) j hj
theorem BV {L M:List Obj} {g:Int} (hg:p6 L M g) (hge:(ai L:Int)<=g):decide (g=bQ (ai M))=jZ L M:=by
 have:=Lz hg hge
 have e:ak L=g:=by
  have:=hg.2.1;unfold ak;omega
 rw[decide_eq_true e,Bool.and_true]at this;exact this
structure Acx where
 kind:Int
 slot:Int
 key:Key
 other:Key
def z7 (L:List Obj) (a:Acx):Bool:=
 if a.kind=1 then false else if a.kind=2 then decide (bj L a.key a.slot a.other=0)else if a.kind=3 then decide (aB L a.key 2 true=0)else if a.kind=4 then decide (bT L a.key a.other=0)else false
def Iq (L:List Obj) (a:Acx):List Obj:=
 if a.kind=1 then L else if a.kind=2 then cC L a.key a.slot a.other else if a.kind=3 then fA L a.key else if a.kind=4 then eT L a.key a.other else L
theorem Nj {L:List Obj} {k:Key} {i:Int} (h:aB L k 2 false≠0):bY L k i=aB L k 2 false/\aJ L k i=void:=by
 have:bY L k i=aB L k 2 false:=by unfold bY;rw[aa1 h]
 exact⟨this,by unfold aJ;rw[this,aa1 h]⟩
theorem NK {L:List Obj} {k:Key} {i:Int} (h:aB L k 2 false=0) (hr:i<0\/15<i):bY L k i=4/\aJ L k i=void:=by
 have:bY L k i=4:=by
  unfold bY ko;rw[aa2 h,aa1 (by simp;omega)]
 exact⟨this,by unfold aJ;rw[this];rfl⟩
theorem RS {L:List Obj} {k:Key} {i:Int} (h:aB L k 2 false=0) (hr:¬(i<0\/15<i)):bY L k i=0/\aJ L k i=di L k i:=by
 have:bY L k i=0:=by
  unfold bY ko;rw[aa2 h,aa2 (by simp;omega)]
 exact⟨this,by unfold aJ;rw[this];rfl⟩
theorem Cf {L:List Obj} {k:Key} {i:Int} {v:Key} {e:Int} (h:bj L k i v=e) (he:e≠0):bj L k i v=e/\cT L k i v=void/\cC L k i v=L:=⟨h,by unfold cT;rw[h,aa1 he],by unfold cC;rw[h,aa1 he]⟩
theorem Nu {L:List Obj} {k:Key} {i:Int} {v:Key} (h:aB L k 2 true≠0):bj L k i v=aB L k 2 true/\cT L k i v=void/\cC L k i v=L:=Cf (by unfold bj;rw[aa1 h]) h
theorem QD {L:List Obj} {k:Key} {i:Int} {v:Key} (h:aB L k 2 true=0) (hr:i<0\/15<i):bj L k i v=4/\cT L k i v=void/\cC L k i v=L:=
 Cf (by unfold bj ko;rw[aa2 h,aa1 (by simp;omega)]) (by omega)
theorem M9 {L:List Obj} {k:Key} {i:Int} {v:Key} (h:aB L k 2 true=0) (hr:¬(i<0\/15<i)) (hm:bJ L v=false):bj L k i v=2/\cT L k i v=void/\cC L k i v=L:=
 Cf (by unfold bj ko;rw[aa2 h,aa2 (by simp;omega),hm];rfl) (by omega)
theorem Ur {L:List Obj} {k:Key} {i:Int} {v:Key} (h:aB L k 2 true=0) (hr:¬(i<0\/15<i)) (hm:bJ L v=true):
  bj L k i v=0/\cT L k i v=di L k i/\cC L k i v=tX L k ((aj L k.oid.toNat free).slots.put i.toNat (ah L v)):=by
 have:bj L k i v=0:=by unfold bj ko;rw[aa2 h,aa2 (by simp;omega),hm];rfl
 exact⟨this,by unfold cT;rw[this];rfl,by unfold cC;rw[this];rfl⟩
theorem vl {L:List Obj} {k:Key} (hL:aq L) (h:aU L k=true):dO L k.oid/\0<=k.oid/\k.oid<(ai L:Int)/\k.oid.toNat<ai L:=by
 obtain⟨_,b2,b3,_⟩:=ei h;have:=(gM.1 hL).2.1;exact⟨⟨b2,b3,by unfold ai;omega⟩,b2,b3,by unfold ai;omega⟩
theorem kH (k:Key):Bw k k=true:=by simp[Bw]
def Acx.wf (x:Acx):Prop:=cc .i64 x.kind/\cc .i64 x.slot/\x.key.wf/\x.other.wf
theorem iZ (L:List Obj):jZ L L=true:=by unfold jZ;simp
theorem G3 {L:List Obj} {k:Key} {i:Int} {v:Key} (h:bj L k i v=0):aB L k 2 true=0/\0<=i/\i<16:=by
 unfold bj ko at h;split at h
 ·rename_i h1;split at h
  ·rename_i h2;simp at h2;exact⟨h1,h2.1,h2.2⟩
  ·omega
 ·rename_i h1;exact absurd h h1
theorem zP {L:List Obj} {a:Acx} (hL:aq L) (h:z7 L a=true):aq (Iq L a):=by
 unfold z7 at h;unfold Iq;split at h
 ·simp at h
 ·rename_i h1;rw[aa1 h1];split at h
  ·rename_i h2;rw[aa2 h2];have h:=aaZ h;obtain⟨e1,e2,e3⟩:=G3 h;obtain⟨a1,a2,_⟩:=gw e1;unfold cC;rw[aa2 h];exact(pB hL a1 a2 (EU hL a1 a2 e2 e3)).2
  ·rename_i h2;rw[aa1 h2];split at h
   ·rename_i h3;rw[aa2 h3];have h:=aaZ h;obtain⟨a1,a2,_⟩:=gw h;unfold fA;rw[aa2 h];exact(pB hL a1 a2 (Hr (by omega))).2
   ·rename_i h3;rw[aa1 h3];split at h
    ·rename_i h4;rw[aa2 h4];have h:=aaZ h;have h':=h;unfold bT at h';split at h'
     ·rename_i h5;obtain⟨a1,a2,_⟩:=gw h5;unfold eT;rw[aa2 h];exact(pB hL a1 a2 (yZ hL a1 a2 16 (by omega))).2
     ·rename_i h5;exact absurd h' h5
    ·simp at h
section
variable {L:List Obj} {k:Key} {s:cZ} (h0:0<=k.oid) (h1:k.oid<(L.length:Int))
include h0 h1
end
theorem fG {L:List Obj} {j:Int} (h0:0<=j) (h1:j<(L.length:Int)):aL L j=aj L j.toNat free:=by
 unfold aL;rw[aa2 (mR.2 ⟨h0,h1⟩)]
theorem gh {L:List Obj} {i:Nat} {x:Obj} (hi:i<L.length) (j:Nat):aj (b6 L i x) j free=if j=i then x else aj L j free:=by
 by_cases e:j=i
 ·subst e;rw[aa2 rfl];simp[aj,b6,aa0,hi]
 ·rw[aa1 e];simp[aj,b6,aa0,List.getElem?_set,Ne.symm e]
theorem iy {L:List Obj} {i:Nat} {x:Obj}:(b6 L i x).length=L.length:=by simp[b6]
theorem mg {κ:Nat->Option Nat} {x a:V} {l m:List V} (h1:ga κ x=some a) (h2:eX κ l=some m):eX κ (x::l)=some (a::m):=by
 simp only[eX];rw[h1];simp only;rw[h2]
def uw {α:Type} (B:ly α) (l:List V):Option α:=match B.rd [] l with
 |some p=>match p.1 with
  | []=>some p.2
  |_=>none
 |none=>none
theorem fP {α:Type} {B:ly α} (hB:gR B) (hid:∀a,lW (B.cn a 0)=true):∀l x,uw B l=some x->ff l (B.cn x 0):=fun l x h=>by
 unfold uw at h;split at h
 case h_2=>simp at h
 rename_i p hp;obtain⟨pls,a⟩:=p;split at h
 case h_2=>simp at h
 rename_i h1;simp only at h1;subst h1;simp only[aaT]at h;subst h;obtain⟨_,_,_,b4⟩:=hB _ _ _ _ hp;obtain⟨c1,c2⟩:=b4 [] [];intro J K hk;have e1:=(c1 J K hk).1;have e2:=c2 K hk;have e3:fQ (fun _=>False) (B.cn a 0):=mF _ (hid a) e2
 refine⟨?_,mF _ (hid a) e2⟩;rw[<-e1];exact fW (N:=fun _=>False) (fun _ h=>h.elim) _ e3
def Az {α:Type} (B:List V->Option α) (Q:List Obj->α->Prop) (chg:List Obj->α->Bool) (L1:List Obj->α->List Obj) (F:List Obj->α->List V):kq:=fun args res K=>
 match args with
 |b::l=>match B l with
  |some x=>match b with
   | .sa j=>match cP res j with
     | .arr _ z t=>if z==163 then match t with
       | .ob M=>Q M x/\(chg M x=false->K (.tp (.sa j::F M x)) res)/\(chg M x=true->K (.tp (.sa res.length::F M x)) (res++ [.arr (some tO) 163 (.ob (L1 M x))]))
       |_=>False
       else False
     |_=>False
   |_=>False
  |none=>False
 |_=>False
def yA (c:Bool) (L1:List Obj) (F:List V) (v:V) (r:List aK):Prop:=
 match v with
 | .tp l=>match l with
   |a::bs=>match a with
    | .sa p=>if p==0 then c=false/\oW (.tp F) (.tp bs) r else if Nat.ble 1 p then match az r p with
      | .arr own z t=>match own with
        |some e=>match t with
         | .ob M=>if z==163&&e==tO then c=true/\oW (.tp F) (.tp bs) r/\M=L1 else False
         |_=>False
        |none=>False
      |_=>False
      else False
    |_=>False
   | []=>False
 |_=>False
theorem RL {c:Bool} {L1:List Obj} {F:List V} {v:V} {r:List aK} (h:yA c L1 F v r):∃p bs,v= .tp (.sa p::bs)/\oW (.tp F) (.tp bs) r/\((p=0/\c=false)\/(1<=p/\c=true/\az r p= .arr (some tO) 163 (.ob L1))):=by
 unfold yA at h;split at h
 case h_2=>exact h.elim
 split at h
 case h_2=>exact h.elim
 split at h
 case h_2=>exact h.elim
 rename_i p;split at h
 ·rename_i e;have e:=aaX.1 e;exact⟨p,_,rfl,h.2,.inl ⟨e,h.1⟩⟩
 ·split at h
  case isFalse=>exact h.elim
  rename_i hp;have hp:1<=p:=by simpa using hp
  split at h
  case h_2=>exact h.elim
  rename_i hrp;split at h
  case h_2=>exact h.elim
  split at h
  case h_2=>exact h.elim
  split at h
  case isFalse=>exact h.elim
  rename_i hc;simp only[aaV,aaX]at hc;obtain⟨rfl,rfl⟩:=hc;obtain⟨h1,h2,rfl⟩:=h;exact⟨p,_,rfl,h2,.inr ⟨hp,h1,hrp⟩⟩
theorem an.Vm {P:Program} {f:Nat} {args:List V} {K KP:V->List aK->Prop} {own:Option Nat} {z:Nat} {l:TL} (h:an P f args [.ro (.arr none z l)] K KP):an P f args [.ro (.arr own z l)] K KP:=by
 have hk:∀i (own:Option Nat),known [.ro (.arr own z l)] i↔i<1:=fun i own=>by
  unfold known;match i with
  |0=>simp[az]
  |i+1=>simp[az]
 refine h.uU fun J fps w0 F0 w hH=>⟨J,fps,hH.weaken fun i hi=>⟨(hk i _).2 ((hk i _).1 hi),fun fp hh=>?_⟩,Env.bD.refl _ _,fun i hi=>(hk i _).2 ((hk i _).1 hi)⟩
 match i,(hk i _).1 hi with
 |0,_=>
  obtain⟨fp',g1,g2⟩:=hh;exact⟨fp',zs g1,g2⟩
theorem D2 {κ:Nat->Option Nat} {p j:Nat} {bs F:List V} {r:List aK} (hκ:κ p=some j) (hF:lW F=true) (hb:oW (.tp F) (.tp bs) r):lu κ (.tp (.sa p::bs)) (.tp (.sa j::F)):=by
 intro ρ2 ρ3 N N' h1 h2 hv;obtain⟨hp,hbs⟩:=hv;obtain⟨e1,e2,_⟩:=dK hb ρ2 N;obtain⟨a1,a2,a3,a4,a5,a6⟩:=h1 p j hκ;have hFN:fQ N F:=e2 hbs;have hF0:fQ (fun _=>False) F:=mF _ hF hFN
 have e3:bz ρ3 F=bz ρ2 F:=fW (N:=fun _=>False) (fun _ h=>h.elim) _ hF0
 simp only[den,Value.tuple.injEq]at e1;have e1:bz ρ2 bs=bz ρ2 F:=by simpa using e1
 refine⟨?_,h2 p j hκ hp,mF _ hF hFN⟩;simp only[den,bz,e3,e1,a2,a4,a5]
theorem iP {P:Program} {f:Nat} {α:Type} {B:List V->Option α} {m:α->List V} {Q:List Obj->α->Prop} {chg:List Obj->α->Bool} {L1:List Obj->α->List Obj} {F:List Obj->α->List V} (hB:∀l x,B l=some x->ff l (m x)) (hid:∀x,lW (m x)=true)
  (hF:∀L x,lW (F L x)=true) (hcl:∀L x,Q L x->an P f (.sa 0::m x) [.ro (.arr none 163 (.ob L))] (yA (chg L x) (L1 L x) (F L x)) (fun _ _=>False)):lh P f (Az B Q chg L1 F):=by
 intro args res K KP h;unfold Az at h;split at h
 case h_2=>exact h.elim
 split at h
 case h_2=>exact h.elim
 rename_i x hx;refine an.args (ff.j4 (hB _ _ hx)) ?_;split at h
 case h_2=>exact h.elim
 rename_i j;split at h
 case h_2=>exact h.elim
 rename_i own z t hj;split at h
 case isFalse=>exact h.elim
 rename_i hz;have hz:=aaX.1 hz;subst hz;split at h
 case h_2=>exact h.elim
 rename_i M;obtain⟨hQ,h0,h1⟩:=h;have hkj:=eU hj (by simp)
 have hjl:=aO hkj;have hres:fD (lS 0 (dV [(j,false)])) res [(j,false)]= [.ro (.arr own 163 (.ob M))]:=by simp[fD,hj,gL]
 refine an.frame (pl:= [(j,false)]) (args0:= .sa 0::m x) (K0:=yA (chg M x) (L1 M x) (F M x)) (KP0:=fun _ _=>False) (by simp[fm,cQ.2 hkj]) (by simpa[ju,dV,pF]using hjl) ?_ ?_ (fun v r hv=>?_) (fun _ _ h=>h.elim)
 ·exact mg (by simp[ga,lS,idxOf,dV]) (lf _ (hid x))
 ·rw[hres];exact an.Vm (hcl M x hQ)
 ·obtain⟨p,bs,rfl,hb,hv⟩:=RL hv;rcases hv with⟨rfl,hc⟩|⟨hp,hc,hrp⟩
  ·have hm:merge [(j,false)] [] r res=res:=by simp[merge,fC,gG]
   refine⟨[],.tp (.sa j::F M x),rfl,by simp[kV],rfl,D2 (by simp[back,v7]) (hF M x) hb,by rw[hm];exact h0 hc⟩
  ·have hpl:p<r.length:=aO (by rw[hrp];simp)
   have hm:merge [(j,false)] [p] r res=res++ [.arr (some tO) 163 (.ob (L1 M x))]:=by simp[merge,fC,hrp,gL,gG]
   refine⟨[p],.tp (.sa res.length::F M x),by simpa[ju,pF]using⟨hp,hpl⟩,by simp[kV],by simp[oz,hrp,jT],D2 ?_ (hF M x) hb,by rw[hm];exact h1 hc⟩
   unfold back;rw[sj _ _ (by simpa using hp)]
   simp[idxOf]
def YE {α:Type} (B:List V->Option α) (R:α->Prop) (Q:List Obj->α->Prop) (F:List Obj->α->V) (M:List Obj->α->List Obj):kq:=fun args res K=>
 match args with
 |a::l=>match B l with
  |some x=>R x/\match a with
   | .nl v=>match v with
     | .pointer none=>K (F [] x) res
     |_=>False
   | .lp k off=>if off==0 then match az res k with
     | .store t e L=>if t==tS&&e==eS then Q L x/\K (F L x) (bP res k (.store tS eS (M L x)))else False
     | .blk t c=>if t==tS&&Y3 c then K (F [] x) res else False
     |_=>False
     else False
   |_=>False
  |none=>False
 |_=>False
theorem C6 {P:Program} {f:Nat} {α:Type} {B:List V->Option α} {m:α->List V} {R:α->Prop} {Q:List Obj->α->Prop} {F:List Obj->α->V} {M:List Obj->α->List Obj} (hB:∀l x,B l=some x->ff l (m x)) (hid:∀x,lW (m x)=true) (hF:∀L x,kE (F L x)=true)
  (h0:∀x,R x->an P f (ke::m x) [] (oW (F [] x)) (fun _ _=>False)) (hz:∀x,R x->an P f (.lp 0 0::m x) [.ro (.blk tS zst)] (oW (F [] x)) (fun _ _=>False))
  (h1:∀L x,Q L x->an P f (.lp 0 0::m x) [.store tS eS L] (CA (F L x) (M L x)) (fun _ _=>False)):lh P f (YE B R Q F M):=by
 intro args res K KP h;unfold YE at h;split at h
 case h_2=>exact h.elim
 split at h
 case h_2=>exact h.elim
 rename_i x hx;obtain⟨hR,h⟩:=h;refine an.args (ff.j4 (hB _ _ hx)) ?_;split at h
 ·split at h
  ·exact an.pure (by simp only[lW,kE,Bool.true_and];exact hid x) (hF _ _) ((h0 x hR).mono (fun _ _ h=>dK h) fun _ _ h=>h) h
  ·exact h.elim
 ·split at h
  ·rename_i hoff;have hoff:=aaX.1 hoff;subst hoff;split at h
   ·rename_i hr;split at h
    ·rename_i hc;simp only[aaV,aaX]at hc;obtain⟨rfl,rfl⟩:=hc;exact an.DC hr (hid x) (hF _ _) ((h1 _ x h.1).mono (fun v r hv=>Hg hv |> fun⟨a,b⟩=>⟨fun J K=>a J K,b⟩) fun _ _ h=>h) h.2
    ·exact h.elim
   ·rename_i hr;split at h
    ·rename_i hc;simp only[aaV,aaX]at hc;obtain⟨rfl,hz'⟩:=hc;have:=ze hz';subst this;exact an.K2 (r0:= .blk tS zst) (by unfold cP;rw[hr];rfl) (by simp) (fun κ=>rfl) (hid x) (hF _ _) ((hz x hR).mono (fun _ _ h=>dK h) fun _ _ h=>h) h
    ·exact h.elim
   ·exact h.elim
  ·exact h.elim
 ·exact h.elim
def bL (n:Int):Key:=⟨1,0,0,0,0,n⟩
theorem dt {L:List Obj} (h:aq L) (j:Nat) (hj:j<L.length):bM (aj L j free) (L.length:Int)=true:=(gM.1 h).2.2 j hj
theorem gY {L:List Obj} (h:aq L):1<=L.length/\L.length<=64:=⟨(gM.1 h).1,(gM.1 h).2.1⟩
theorem Ly {L M:List Obj} (h:aq L) (hl:M.length=L.length) (hm:∀j,j<L.length->bM (aj M j free) (L.length:Int)=true):aq M:=by
 obtain⟨a,b⟩:=gY h;unfold aq;rw[gM,hl];exact⟨a,b,hm⟩
theorem kS {L:List Obj} {i:Nat} {x:Obj} (h:aq L) (hx:bM x (L.length:Int)=true):aq (b6 L i x):=by
 by_cases hi:i<L.length
 ·refine Ly h iy fun j hj=>?_
  rw[gh hi];split
  ·exact hx
  ·exact dt h j hj
 ·rw[show b6 L i x=L from List.set_eq_of_length_le (by omega)];exact h
theorem my {L:List Obj} {i:Int} {x:Obj} (h0:0<=i) (h1:i<(L.length:Int)) (hx:bM x (L.length:Int)=true):cK L i x=b6 L i.toNat x/\gi L i x=0:=by
 have e:dA L i=0:=mR.2 ⟨h0,h1⟩;have e2:ej x (ai L:Int)=0:=by unfold ej;exact aa2 hx
 exact⟨(vf e e2).2,(vf e e2).1⟩
theorem RT {n:Int} {s:cZ} {k:Key} {j:Nat} (hj:j<16) (h:∀i,i<16->dF n (s.at i)) (hk:dF n k) (i:Nat) (hi:i<16):dF n ((s.put j k).at i):=by
 rw[cZ.gd _ _ _ _ hj];split
 ·exact hk
 ·exact h i hi
theorem sI {n:Int} (hn:0<=n) (x:Int):dF n (bL x):=by
 refine⟨by simp[bL,aV,fy,kG,ea,gO,fZ],?_⟩
 unfold bf;rw[show ea (bL x).kind=false by simp[bL,ea]]
 simp;omega
theorem sB {o:Obj} {n:Int} (h:bM o n=true) (hk:o.kind=1) (i:Nat) (hi:i<16):dF n (o.slots.at i):=by
 obtain⟨a1,a2,a3,a4,a5,a6,a7,a8,a9,a10,a11⟩:=fo.1 h;have:=a10 i hi;rw[hk]at this;exact LS.1 this
theorem mN (o:Obj):CW o o=true:=by simp[CW]
end Go.Sx
