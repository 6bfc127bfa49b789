import Derived.Test.YtmfbohanboiklaaGreatMa8
set_option linter.unusedSimpArgs false
set_option linter.unusedVariables false
set_option maxRecDepth 100000
namespace Go.Sx
def eH(h:Bool)(n m:Int):Bool:=if h then decide (0<=n)&&decide (n<=m)else decide (n=0)
def cG(n:Int):Bool:=decide (2<=n)&&decide (n<=7)
def mW(n:Int):Bool:=decide (n=2)||decide (n=3)
def fD(n:Int):Bool:=decide (n=7)
def jc(n:Int):Bool:=decide (n=1)||decide (n=6)
def dg(n:Int):Int:=if n=2 then 7 else if n=3 then 1 else 0
def aR(k:Key):Bool:=
 decide (0<=k.kind)&&decide (k.kind<=10)&&decide (0<=k.rights)&&decide (k.rights<=dg k.kind)&&(jc k.kind||decide (k.value=0))&&
 eH (cG k.kind) k.oid 63&&eH (cG k.kind) k.count 4294967295&&eH (fD k.kind) k.call 4294967295
def bO(k:Key):Int:=if aR k then 0 else 2
def cx(k:Key):Int:=if aR k&&cG k.kind then k.oid else -1
def jo(k:Key):Int:=if cx k<0 then 0 else if k.kind=3 then 2 else 1
def cW(k:Key)(o:Obj):Bool:=
 aR k&&(decide (cx k<0)||(decide (o.kind=jo k)&&decide (o.count=k.count)&&(!decide (k.kind=7)||decide (o.calls=k.call))))
def WV(k:Key):Bool:=decide (0<=k.kind)&&decide (k.kind<=10)
def nK(n:Nat):ByteArray:=
 match n with
 |0=> "void".toUTF8
 |1=> "number".toUTF8
 |2=> "node".toUTF8
 |3=> "page".toUTF8
 |4=> "bank".toUTF8
 |5=> "proc".toUTF8
 |6=> "start".toUTF8
 |7=> "resume".toUTF8
 |8=> "discrim".toUTF8
 |9=> "clock".toUTF8
 |10=> "check".toUTF8
 |_=>ByteArray.empty
def kd(s:ByteArray)(a b c d:Bool)(m w:Int):V:= .ag [.st s,.cb a,.cb b,.cb c,.cb d,.ci .i64 m,.ci .i64 w]
def Dd:V:= .ag [kd (nK 0) false false false false 0 0,kd (nK 1) false false false true 0 0,kd (nK 2) true true false false 7 1,kd (nK 3) true true false false 1 2,
 kd (nK 4) true false false false 0 1,kd (nK 5) true false false false 0 1,kd (nK 6) true false false true 0 1,kd (nK 7) true false true false 0 1,
 kd (nK 8) false false false false 0 0,kd (nK 9) false false false false 0 0,kd (nK 10) false false false false 0 0]
def ya(k:Key):ByteArray:=if WV k then nK k.kind.toNat else ByteArray.empty
def td(n:Int):Int:=if n=3 then 2 else if 2<=n/\n<=7 then 1 else 0
def O5:Ct:=mk3 toBool (rI .i64) (rI .i64) fun h n m=> .bo (eH h n m)
def aa5:Ct:=W5 rK fun k=> .tp [.ag [.st (ya k),.bo (cG k.kind),.bo (mW k.kind),.bo (fD k.kind),.bo (jc k.kind),.it .i64 (dg k.kind),.it .i64 (td k.kind)],.bo (aR k)]
def aco:Ct:=W5 (rI .i64) fun n=> .tp [.bo (cG n),.bo (mW n),.bo (fD n),.bo (jc n)]
def Xa:Ct:=W5 rK fun k=> .it .i64 (bO k)
def bc(k:Key):Bool:=aR k&&cG k.kind
def cz(k:Key):Int:=if bc k then k.oid else 0
def Rs:Ct:=W5 rK fun k=> .tp [.it .i64 (cz k),.bo (bc k)]
def QZ:Ct:=W5 rK fun k=> .it .i64 (cx k)
def R4:Ct:=Xm rK rO fun k o=> .bo (cW k o)
theorem wrap_i64{n:Int}(h:cB .i64 n):IntKind.wrap .i64 n=n:=by
 have:=h;simp only[cB]at this;unfold IntKind.wrap;simp[IntKind.bits,IntKind.signed];omega
theorem ue{r:Int}(j:Nat)(hj:j<63)(h0:0<=r)(h1:r<=9223372036854775807):bu .andNot .i64 r ((2^j-1:Nat):Int)=0↔r<2^j:=by
 obtain⟨n,rfl⟩:=Int.eq_ofNat_of_zero_le h0;have hn:n<2^64:=by omega
 have hbit:∀i,(BitVec.ofInt 64 (n:Int)).getLsbD i=n.testBit i:=by
  intro i;rw[BitVec.ofInt_natCast,BitVec.getLsbD_ofNat];by_cases hi:i<64
  ·simp[hi]
  ·rw[Nat.testBit_lt_two_pow (Nat.lt_of_lt_of_le hn (Nat.pow_le_pow_right (by omega) (by omega)))];simp
 have hx:(BitVec.ofInt 64 (n:Int) &&& ~~~BitVec.ofInt 64 ((2^j-1:Nat):Int)).toNat=0↔n<2^j:=by
  constructor
  ·intro h;refine Nat.lt_pow_two_of_testBit _ fun i hi=>?_
   rcases Nat.lt_or_ge i 64 with h64|h64
   ·have h2:(BitVec.ofInt 64 (n:Int) &&& ~~~BitVec.ofInt 64 ((2^j-1:Nat):Int)).getLsbD i=false:=by
     rw[BitVec.getLsbD,h];simp
    rw[BitVec.getLsbD_and,hbit,BitVec.getLsbD_not,BitVec.ofInt_natCast,BitVec.getLsbD_ofNat,Nat.testBit_two_pow_sub_one]at h2;simp only[h64,decide_true,Bool.true_and,show¬i<j by omega,decide_false,Bool.not_false,Bool.and_true]at h2
    exact h2
   ·exact Nat.testBit_lt_two_pow (Nat.lt_of_lt_of_le hn (Nat.pow_le_pow_right (by omega) h64))
  ·intro h
   have:BitVec.ofInt 64 (n:Int) &&& ~~~BitVec.ofInt 64 ((2^j-1:Nat):Int)=0#64:=by
    refine BitVec.eq_of_getLsbD_eq fun i hi=>?_
    rw[BitVec.getLsbD_and,hbit,BitVec.getLsbD_not,BitVec.ofInt_natCast,BitVec.getLsbD_ofNat,Nat.testBit_two_pow_sub_one];by_cases hij:i<j
    ·simp[hij,hi]
    ·rw[Nat.testBit_lt_two_pow (Nat.lt_of_lt_of_le h (Nat.pow_le_pow_right (by omega) (by omega)))];simp
   rw[this];rfl
 have hle:(BitVec.ofInt 64 (n:Int) &&& ~~~BitVec.ofInt 64 ((2^j-1:Nat):Int)).toNat<=n:=by
  rw[BitVec.toNat_and];refine Nat.le_trans Nat.and_le_left ?_;rw[BitVec.ofInt_natCast,BitVec.toNat_ofNat];exact Nat.mod_le _ _
 have hp:((2^j:Nat):Int)=(2:Int)^j:=by simp
 change IntKind.wrap .i64 (((BitVec.ofInt 64 (n:Int) &&& ~~~BitVec.ofInt 64 ((2^j-1:Nat):Int)).toNat:Nat):Int)=0↔_
 generalize (BitVec.ofInt 64 (n:Int) &&& ~~~BitVec.ofInt 64 ((2^j-1:Nat):Int)).toNat=x at *
 rw[wrap_i64 (by simp only[cB];omega),<-hp]
 omega
theorem V9{r:Int}(h0:0<=r)(h1:r<=9223372036854775807):bu .andNot .i64 r 7=0↔r<=7:=by
 have:=ue 3 (by omega) h0 h1
 rw[show((2^3-1:Nat):Int)=7 from rfl,show(2:Int)^3=8 from rfl]at this;rw[this];omega
theorem Tr{r:Int}(h0:0<=r)(h1:r<=9223372036854775807):bu .andNot .i64 r 1=0↔r<=1:=by
 have:=ue 1 (by omega) h0 h1
 rw[show((2^1-1:Nat):Int)=1 from rfl,show(2:Int)^1=2 from rfl]at this;rw[this];omega
theorem Wn{r:Int}(h0:0<=r)(h1:r<=9223372036854775807):bu .andNot .i64 r 0=0↔r<=0:=by
 have:=ue 0 (by omega) h0 h1
 rw[show((2^0-1:Nat):Int)=0 from rfl,show(2:Int)^0=1 from rfl]at this;rw[this];omega
theorem OP{r m:Int}{b:Bool}(h:0<=r->(b=decide (r<=m))):(decide (0<=r)&&b)=(decide (0<=r)&&decide (r<=m)):=by
 by_cases h0:0<=r
 ·rw[h h0]
 ·simp[h0]
end Go.Sx
namespace Go.Proofs.YtmfbohanboiklaaGreat
open Go.Sx
theorem Lp(h:Bool)(n m:Int):
 (h&&decide (0<=n)&&decide (n<=m)|| !h&&decide (n=0))=eH h n m:=by
 unfold eH;cases h<;>simp
theorem Mi[Fen]:dO Tryz.prog 79 O5:=
 RU N3 (iO .i64) (iO .i64) (fun _ _ _=>rfl) fun h n m _ _ _=>bP (inl:=cH) (ann:=bn) aP (Lp h n m) (by kernel_rfl)
theorem Ps[Fen]:dO Tryz.prog 78 (mk0 Dd):=
 XU rfl (bP (inl:=cH) (ann:=bn) aP (G:=Dd=Dd) rfl (by kernel_rfl):aM _ _ _ _ (fun v _=>v=Dd) (fun _ _=>False))
abbrev ael(k:Key):=aL [false,false,true,true,true,true,true,true,false,false,false] k.kind.toNat false
theorem Zl(k:Key)(hk:k.wf):
 au (decide (k.kind<0)||decide (10<k.kind)) ({data:={toList:=[]}}=ya k/\false=cG k.kind/\false=mW k.kind/\false=fD k.kind/\false=jc k.kind/\0=dg k.kind/\0=td k.kind/\false=aR k) ((0<=k.kind/\k.kind< ↑11)/\aL [nK 0,nK 1,nK 2,nK 3,nK 4,nK 5,nK 6,nK 7,nK 8,nK 9,nK 10] k.kind.toNat {data:={toList:=[]}}=ya k/\aL [false,false,true,true,true,true,true,true,false,false,false] k.kind.toNat false=cG k.kind/\aL [false,false,true,true,false,false,false,false,false,false,false] k.kind.toNat false=mW k.kind/\aL [false,false,false,false,false,false,false,true,false,false,false] k.kind.toNat false=fD k.kind/\aL [false,true,false,false,false,false,true,false,false,false,false] k.kind.toNat false=jc k.kind/\aL [0,0,7,1,0,0,0,0,0,0,0] k.kind.toNat 0=dg k.kind/\aL [0,0,1,2,1,1,1,1,0,0,0] k.kind.toNat 0=td k.kind/\(eH (ael k) k.oid 63&&eH (ael k) k.count 4294967295&&eH (aL [false,false,false,false,false,false,false,true,false,false,false] k.kind.toNat false) k.call 4294967295&&decide (0<=k.rights)&&decide (bu BinOp.andNot IntKind.i64 k.rights (aL [0,0,7,1,0,0,0,0,0,0,0] k.kind.toNat 0)=0)&&(aL [false,true,false,false,false,false,true,false,false,false,false] k.kind.toNat false||decide (k.value=0)))=aR k):=by
 delta au ael
 obtain⟨kind,oid,count,call,rights,value⟩:=k;have hr:rights<=9223372036854775807:=hk.2.2.2.2.1.2;simp only;have he:(ByteArray.empty:ByteArray)= {data:= {toList:= []}}:=rfl;refine⟨fun h=>?_,fun h=>?_⟩
 ·simp only[Bool.or_eq_true,ah]at h;refine⟨?_,?_,?_,?_,?_,?_,?_,?_⟩<;>simp only[ya,WV,cG,mW,fD,jc,dg,td,aR]<;>grind
 ·simp only[Bool.or_eq_false_iff,decide_eq_false_iff_not]at h;have hb:∀m,(0<=rights->(decide (bu .andNot .i64 rights m=0))=decide (rights<=m))->(decide (0<=rights)&&decide (bu .andNot .i64 rights m=0))=(decide (0<=rights)&&decide (rights<=m)):=fun m hm=>OP hm
  have h7:=hb 7 fun h0=>by rw[decide_eq_decide];exact V9 h0 hr
  have h1:=hb 1 fun h0=>by rw[decide_eq_decide];exact Tr h0 hr
  have h0:=hb 0 fun h0=>by rw[decide_eq_decide];exact Wn h0 hr
  have hc:kind=0\/kind=1\/kind=2\/kind=3\/kind=4\/kind=5\/kind=6\/kind=7\/kind=8\/kind=9\/kind=10:=by omega
  rcases hc with rfl|rfl|rfl|rfl|rfl|rfl|rfl|rfl|rfl|rfl|rfl<;>
   refine⟨⟨by decide,by decide⟩,rfl,rfl,rfl,rfl,rfl,rfl,rfl,?_⟩<;>
   simp only[aL,aR,cG,jc,fD,dg,Int.reduceToNat,List.getD_cons_zero,List.getD_cons_succ,Bool.and_assoc]<;>
   simp+decide [eH]<;>grind
theorem wL[Fen]:dO Tryz.prog 58 aa5:=
 tE iF (fun _=>rfl) fun k hk=>bP (inl:=cH) (ann:=bn) (aH Mi (aH Ps aP)) (Zl k hk) (by kernel_rfl)
theorem Ur(k:Key)(hk:k.wf):
 ((!aR k)=true->2=bO k)/\((!aR k)=false->0=bO k):=by
 unfold bO;cases aR k<;>simp
theorem gK[Fen]:dO Tryz.prog 46 Xa:=
 tE iF (fun _=>rfl) fun k hk=>bP (inl:=cH) (ann:=bn) (aH wL aP) (Ur k hk) (by kernel_rfl)
theorem KZ(k:Key)(hk:k.wf):
 ((!aR k|| !cG k.kind)=true->0=cz k/\false=bc k)/\
   ((!aR k|| !cG k.kind)=false->k.oid=cz k/\true=bc k):=by
 unfold cz bc;cases aR k<;>cases cG k.kind<;>simp
theorem dC[Fen]:dO Tryz.prog 32 Rs:=
 tE iF (fun _=>rfl) fun k hk=>bP (inl:=cH) (ann:=bn) (aH wL aP) (KZ k hk) (by kernel_rfl)
theorem Hi(k:Key)(o:Sx.Obj)(hk:k.wf):
 au (!aR k) (false=cW k o) (au (!cG k.kind) (true=cW k o) ((decide (o.kind=td k.kind)&&decide (o.count=k.count)&&(!fD k.kind||decide (o.calls=k.call)))=cW k o)):=by
 delta au
 cases hok:aR k
 ·simp[cW,hok]
 ·have h0:cG k.kind=true->0<=k.oid:=fun h=>by
   simp only[aR,eH,h,if_true,af,ah]at hok;omega
  simp only[cW,jo,cx,td,fD,hok,Bool.true_and];simp only[cG]at *;grind
theorem Ad[Fen]:dO Tryz.prog 70 R4:=
 tZ iF BG (fun _ _=>rfl) fun k o hk _=>bP (inl:=cH) (ann:=bn) (aH wL aP) (Hi k o hk) (by kernel_rfl)
theorem aar(n:Int):
 (decide (2<=n)&&decide (n<=7))=cG n/\
  (decide (n=2)||decide (n=3))=mW n/\
   decide (n=7)=fD n/\(decide (n=1)||decide (n=6))=jc n:=by
 exact⟨rfl,rfl,rfl,rfl⟩
theorem RL[Fen]:dO Tryz.prog 42 aco:=
 tE (iO .i64) (fun _=>rfl) fun n _=>bP (inl:=cH) (ann:=bn) aP (aar n) (by kernel_rfl)
abbrev aem(k:Key):=au (cG k.kind&&(decide (k.oid<0)||decide (64<=k.oid)||decide (k.count<0)||decide (4294967295<k.count))|| !cG k.kind&&(!decide (k.oid=0)|| !decide (k.count=0))) (2=bO k) (au (fD k.kind&&(decide (k.call<0)||decide (4294967295<k.call))|| !fD k.kind&& !decide (k.call=0)) (2=bO k) (0=bO k))
abbrev aen(k:Key):=au (decide (k.kind<0)||decide (10<k.kind)||decide (k.rights<0)||decide (1<k.rights)|| !jc k.kind&& !decide (k.value=0)) (2=bO k) (aem k)
theorem To(k:Key)(hk:k.wf):
 au (mW k.kind) (au (decide (k.kind=3)) (aen k) (au (decide (k.kind<0)||decide (10<k.kind)||decide (k.rights<0)||decide (7<k.rights)|| !jc k.kind&& !decide (k.value=0)) (2=bO k) (aem k))) (au (decide (k.kind=3)) (aen k) (au (decide (k.kind<0)||decide (10<k.kind)||decide (k.rights<0)||decide (0<k.rights)|| !jc k.kind&& !decide (k.value=0)) (2=bO k) (aem k))):=by
 delta au aen aem
 simp only[bO,aR,eH,dg,mW];rcases Bool.eq_false_or_eq_true (cG k.kind)with hA|hA<;>rcases Bool.eq_false_or_eq_true (fD k.kind)with hB|hB<;>rcases Bool.eq_false_or_eq_true (jc k.kind)with hC|hC<;>simp only[hA,hB,hC,Bool.true_and,Bool.false_and,Bool.not_true,Bool.not_false,Bool.or_false,Bool.false_or,Bool.true_or,if_true,Bool.false_eq_true,if_false,Bool.and_true]<;>grind
theorem Kp[Fen]:dO Tryz.prog 22 Xa:=
 tE iF (fun _=>rfl) fun k hk=>bP (inl:=cH) (ann:=bn) (aH RL aP) (To k hk) (by kernel_rfl)
theorem Li(k:Key)(hk:k.wf):
 ((!decide (bO k=0)|| !cG k.kind)=true-> -1=cx k)/\
   ((!decide (bO k=0)|| !cG k.kind)=false->k.oid=cx k):=by
 unfold cx bO;cases aR k<;>cases cG k.kind<;>simp
theorem K7[Fen]:dO Tryz.prog 23 QZ:=
 tE iF (fun _=>rfl) fun k hk=>bP (inl:=cH) (ann:=bn) (aH RL (aH Kp aP)) (Li k hk) (by kernel_rfl)
end Go.Proofs.YtmfbohanboiklaaGreat
namespace Go.Sx
def iS(kind n:Int)(k:Key):Bool:=aR k&&decide (cx k<n)&&(decide (kind=1)||decide (k=void))
def bS(o:Obj)(n:Int):Bool:=
 decide (1<=n)&&decide (n<=64)&&decide (0<=o.kind)&&decide (o.kind<=3)&&decide (0<=o.count)&&decide (o.count<=4294967295)&&decide (0<=o.calls)&&decide (o.calls<=4294967295)&&
 (decide (o.kind=1)||decide (o.calls=0))&&(List.range 16).all (fun i=>iS o.kind n (o.slots.at i))&&
 (List.range 64).all (fun i=>decide (o.kind=1)||decide (o.kind=2)||decide (o.bytes.at i=0))
def c8(o:Obj)(n:Int):Int:=if bS o n then 0 else 2
def lj(o:Obj)(b:Bool):Bool:=decide (o.slots=ib)&&(b||decide (o.bytes=fK))&&decide (o.calls=0)
def DQ(o:Obj)(n:Int)(i:Int):Prop:=0<=i/\i<=16/\∀j:Nat,(j:Int)<i->iS o.kind n (o.slots.at j)=true
def DD(o:Obj)(n:Int)(i:Int):Prop:=0<=i/\i<=64/\(∀j:Nat,j<16->iS o.kind n (o.slots.at j)=true)/\∀j:Nat,(j:Int)<i->(o.kind=1\/o.kind=2\/o.bytes.at j=0)
def pE(o:Obj)(n:Int)(i:Int):Bool:=(List.range i.toNat).all fun j=>aR (o.slots.at j)&&decide (cx (o.slots.at j)<n)
def CW(i:Int):Prop:=0<=i/\i<=16
def aaG:Ct:=Xm rO toBool fun o b=> .bo (lj o b)
def Om:Ct:=Xm rO (rI .i64) fun o n=> .it .i64 (c8 o n)
theorem dK{o:Obj}{n:Int}:bS o n=true↔1<=n/\n<=64/\0<=o.kind/\o.kind<=3/\0<=o.count/\o.count<=4294967295/\0<=o.calls/\o.calls<=4294967295/\
  (o.kind=1\/o.calls=0)/\(∀i,i<16->iS o.kind n (o.slots.at i)=true)/\∀i,i<64->(o.kind=1\/o.kind=2)\/o.bytes.at i=0:=by
 simp only[bS,af,ah,Bool.or_eq_true,List.all_eq_true,List.mem_range,and_assoc]
theorem qn{o:Obj}{n:Int}(h:¬bS o n=true):2=c8 o n:=by simp[c8,h]
theorem rY{o:Obj}{n:Int}(h:bS o n=true):0=c8 o n:=by simp[c8,h]
theorem Lu(kind n:Int)(k:Key):(!decide (bO k=0)||decide (n<=cx k)|| !decide (kind=1)&& !A4 k void)= !iS kind n k:=by
 unfold iS bO A4;cases aR k<;>grind
theorem T3(b:UInt8):decide (WL b=0)=decide (b=0):=by
 rw[decide_eq_decide,WL];constructor
 ·intro h;have:b.toNat=0:=by omega
  exact UInt8.toNat_inj.1 (by simpa using this)
 ·rintro rfl;rfl
theorem I5{s:ck}:s=ib↔ ∀i,i<16->s.at i=void:=by
 constructor
 ·rintro rfl i _;exact pY i
 ·intro h;refine Vector.ext fun i hi=>?_
  have:=h i hi;unfold ck.at at this;simp only[ib,Vector.getElem_replicate];rw[<-this];simp[hi]
theorem J8{s:Bytes}:s=fK↔ ∀i,i<64->s.at i=0:=by
 constructor
 ·rintro rfl i hi
  unfold Bytes.at fK;simp[hi]
 ·intro h;refine Vector.ext fun i hi=>?_
  have:=h i hi;unfold Bytes.at at this;simp only[fK,Vector.getElem_replicate];rw[<-this];simp[hi]
theorem nh:aR void=true/\cx void= -1:=by decide
theorem xq{kind n:Int}(hk:kind≠1)(hn:1<=n)(k:Key):iS kind n k=true↔k=void:=by
 unfold iS;simp only[af,ah,Bool.or_eq_true];constructor
 ·rintro⟨_,h|h⟩
  ·exact absurd h hk
  ·exact h
 ·rintro rfl
  exact⟨⟨nh.1,by rw[nh.2];omega⟩,.inr rfl⟩
theorem Qh{o:Obj}{b:Bool}:lj o b=true↔(∀i,i<16->o.slots.at i=void)/\(b=true\/∀i,i<64->o.bytes.at i=0)/\o.calls=0:=by
 simp only[lj,af,ah,Bool.or_eq_true,I5,J8,and_assoc]
theorem G1{o:Obj}{n:Int}(h1:1<=n)(h2:n<=64)(h3:0<=o.count)(h4:o.count<=4294967295)(h5:0<=o.calls)(h6:o.calls<=4294967295){b:Bool}(hk:0<=o.kind/\o.kind<=3/\o.kind≠1)(hb:b=decide (o.kind=2)):
  bS o n=lj o b:=by
 rw[Bool.eq_iff_iff,dK,Qh];subst hb;constructor
 ·rintro⟨_,_,_,_,_,_,_,_,h,hs,hz⟩
  refine⟨fun i hi=>(xq hk.2.2 h1 _).1 (hs i hi),?_,h.resolve_left hk.2.2⟩
  by_cases h2:o.kind=2
  ·exact .inl (by simp[h2])
  ·exact .inr fun i hi=>(hz i hi).resolve_left fun h=>h.elim hk.2.2 h2
 ·rintro⟨hs,hz,hc⟩
  refine⟨h1,h2,hk.1,hk.2.1,h3,h4,h5,h6,.inr hc,fun i hi=>(xq hk.2.2 h1 _).2 (hs i hi),fun i hi=>?_⟩
  rcases hz with h|h
  ·exact .inl (.inr (by simpa using h))
  ·exact .inr (h i hi)
theorem HD{o:Obj}{n:Int}(h1:1<=n)(h2:n<=64)(h3:0<=o.count)(h4:o.count<=4294967295)(h5:0<=o.calls)(h6:o.calls<=4294967295)(hk:o.kind=1):bS o n=pE o n 16:=by
 rw[Bool.eq_iff_iff,dK];simp only[pE,List.all_eq_true,List.mem_range,hk,iS,af,decide_true,Bool.true_or,and_true];constructor
 ·rintro⟨_,_,_,_,_,_,_,_,_,hs,_⟩
  exact fun i hi=>hs i hi
 ·intro hs;exact⟨h1,h2,by omega,by omega,h3,h4,h5,h6,.inl trivial,fun i hi=>hs i hi,fun i hi=> .inl (.inl trivial)⟩
theorem OT{o:Obj}{n g:Int}:(pE o n g&&decide (bO (o.slots.at g.toNat)=0)&&(!bc (o.slots.at g.toNat)||decide (cz (o.slots.at g.toNat)<n)))=
  (pE o n g&&(aR (o.slots.at g.toNat)&&(!bc (o.slots.at g.toNat)||decide ((o.slots.at g.toNat).oid<n)))):=by
 unfold bO cz;cases aR (o.slots.at g.toNat)<;>cases bc (o.slots.at g.toNat)<;>simp
theorem NF{o:Obj}{n g:Int}(h0:0<=g)(hn:1<=n):(pE o n g&&decide (bO (o.slots.at g.toNat)=0)&&(!bc (o.slots.at g.toNat)||decide (cz (o.slots.at g.toNat)<n)))=pE o n (g+1):=by
 rw[OT];unfold pE;rw[show(g+1).toNat=g.toNat+1 by omega,List.range_succ,List.all_append]
 simp only[List.all_cons,List.all_nil,Bool.and_true];congr 1
 unfold cx bc;cases aR (o.slots.at g.toNat)
 ·rfl
 ·cases cG (o.slots.at g.toNat).kind
  ·simp;omega
  ·simp
end Go.Sx
namespace Go.Proofs.YtmfbohanboiklaaGreat
open Go.Sx
theorem Us(o:Sx.Obj)(b:Bool):
 (E0 o.slots ib&&(b||E1 o.bytes fK)&&decide (o.calls=0))=lj o b:=by
 unfold lj E0 E1;rfl
theorem VQ[Fen]:dO Tryz.prog 95 aaG:=
 tZ BG N3 (fun _ _=>rfl) fun o b _ _=>bP (inl:=cH) (ann:=bn) aP (Us o b) (by kernel_rfl)
theorem R0(o:Sx.Obj)(n:Int):
 au (decide (n<1)||decide (64<n)||decide (o.kind<0)||decide (3<o.kind)||decide (o.count<0)||decide (4294967295<o.count)||decide (o.calls<0)||decide (4294967295<o.calls)|| !decide (o.kind=1)&& !decide (o.calls=0)) (2=c8 o n) ((∃g,DQ o n g/\n=n/\o.kind=o.kind/\0=g/\o=o)/\∀(g:Int),DQ o n g->au (decide (g<16)) ((0<=g/\g< ↑16)/\((!!decide (bO (o.slots.at g.toNat)=0))=true->0<=g/\g< ↑16)/\((!decide (o.kind=1)&& !(!decide (bO (o.slots.at g.toNat)=0)||decide (n<=cx (o.slots.at g.toNat))))=true->0<=g/\g< ↑16)/\au (!decide (bO (o.slots.at g.toNat)=0)||decide (n<=cx (o.slots.at g.toNat))|| !decide (o.kind=1)&& !A4 (o.slots.at g.toNat) void) (2=c8 o n) (az (g+1)/\∃g',DQ o n g'/\(16-g').toNat<(16-g).toNat/\n=n/\o.kind=o.kind/\g+1=g'/\o=o)) ((∃g,DD o n g/\n=n/\o.kind=o.kind/\0=g/\o=o)/\∀(g:Int),DD o n g->au (decide (g<64)) (((!decide (o.kind=1)&& !decide (o.kind=2))=true->0<=g/\g< ↑64)/\au (!decide (o.kind=1)&& !decide (o.kind=2)&& !decide (WL (o.bytes.at g.toNat)=0)) (2=c8 o n) (az (g+1)/\∃g',DD o n g'/\(64-g').toNat<(64-g).toNat/\n=n/\o.kind=o.kind/\g+1=g'/\o=o)) (0=c8 o n))):=by
 delta au az
 refine⟨fun h=>qn fun hh=>?_,fun h=>⟨⟨0,⟨by omega,by omega,fun j hj=>by omega⟩,rfl,rfl,rfl,rfl⟩,fun g hg=>⟨fun hlt=>?_,fun hge=>?_⟩⟩⟩
 ·have:=dK.1 hh;simp only[Bool.or_eq_true,af,Bool.not_eq_true',ah,decide_eq_false_iff_not]at h;omega
 ·obtain⟨g0,g1,g2⟩:=hg;have hlt:=ak hlt;rw[Lu];refine⟨⟨g0,by omega⟩,fun _=>⟨g0,by omega⟩,fun _=>⟨g0,by omega⟩,fun hbad=>qn fun hh=>?_,fun hok=>⟨?_,g+1,⟨by omega,by omega,fun j hj=>?_⟩,by omega,rfl,rfl,rfl,rfl⟩⟩
  ·have:=(dK.1 hh).2.2.2.2.2.2.2.2.2.1 g.toNat (by omega)
   rw[this]at hbad;simp at hbad
  ·simp only[bh,cB];omega
  ·by_cases e:(j:Int)<g
   ·exact g2 j e
   ·have:j=g.toNat:=by omega
    subst this;simpa using hok
 ·obtain⟨g0,g1,g2⟩:=hg;have hge:¬g<16:=aj hge;refine⟨⟨0,⟨by omega,by omega,fun j hj=>g2 j (by omega),fun j hj=>by omega⟩,rfl,rfl,rfl,rfl⟩,fun g hg=>⟨fun hlt=>?_,fun hge=>rY ?_⟩⟩
  ·obtain⟨k0,k1,k2,k3⟩:=hg;have hlt:=ak hlt;simp only[T3];refine⟨fun _=>⟨k0,by omega⟩,fun hbad=>qn fun hh=>?_,fun hok=>⟨?_,g+1,⟨by omega,by omega,k2,fun j hj=>?_⟩,by omega,by simp⟩⟩
   ·have:=(dK.1 hh).2.2.2.2.2.2.2.2.2.2 g.toNat (by omega)
    simp only[af,Bool.not_eq_true',decide_eq_false_iff_not]at hbad;grind
   ·simp only[bh,cB];omega
   ·by_cases e:(j:Int)<g
    ·exact k3 j e
    ·have:j=g.toNat:=by omega
     subst this;simp only[Bool.and_eq_false_iff,Bool.not_eq_false',ah]at hok;grind
  ·obtain⟨k0,k1,k2,k3⟩:=hg;have hge:¬g<64:=aj hge;simp only[Bool.or_eq_false_iff,Bool.and_eq_false_iff,Bool.not_eq_false',ah,decide_eq_false_iff_not]at h;refine dK.2 ⟨by omega,by omega,by omega,by omega,by omega,by omega,by omega,by omega,by omega,k2,fun i hi=>?_⟩
   have:=k3 i (by omega)
   grind
theorem Rq[Fen]:dO Tryz.prog 40 Om:=
 tZ BG (iO .i64) (fun _ _=>rfl) fun o n _ _=>bP (inl:=cH) (ann:=(lf [(40,5,lpI [1,2,5] 6 (DQ o n) 16),(40,10,lpI [1,2,5] 7 (DD o n) 64)])) (aH Kp (aH K7 aP)) (R0 o n) (by kernel_rfl)
theorem TT(o:Sx.Obj)(n:Int):
 au (decide (n<1)||decide (64<n)||decide (o.count<0)||decide (4294967295<o.count)||decide (o.calls<0)||decide (4294967295<o.calls)) (2=c8 o n) (au (decide (o.kind=0)) (au (!lj o false) (2=c8 o n) (0=c8 o n)) (au (decide (o.kind=3)) (au (!lj o false) (2=c8 o n) (0=c8 o n)) (au (decide (o.kind=2)) (au (!lj o true) (2=c8 o n) (0=c8 o n)) (au (decide (o.kind=1)) ((∃g,CW g/\n=n/\true=pE o n g/\o.slots=o.slots/\0=g/\o=o)/\∀(g:Int),CW g->au (decide (g<16)) ((0<=g/\g< ↑16)/\bh IntKind.i64 (g+1)/\∃g',CW g'/\(16-g').toNat<(16-g).toNat/\n=n/\(pE o n g&&decide (bO (o.slots.at g.toNat)=0)&&(!bc (o.slots.at g.toNat)||decide (cz (o.slots.at g.toNat)<n)))=pE o n g'/\o.slots=o.slots/\g+1=g'/\o=o) (au (!pE o n g) (2=c8 o n) (0=c8 o n))) (2=c8 o n))))):=by
 delta au
 refine⟨fun h=>qn fun hh=>?_,fun h=>?_⟩
 ·have:=dK.1 hh;simp only[Bool.or_eq_true,ah]at h;omega
 ·simp only[Bool.or_eq_false_iff,decide_eq_false_iff_not]at h
  have hb:∀(b:Bool),(0<=o.kind/\o.kind<=3/\o.kind≠1)->b=decide (o.kind=2)->((!lj o b)=true->2=c8 o n)/\((!lj o b)=false->0=c8 o n):=fun b h1 h2=>by
   have he:=G1 (o:=o) (n:=n) (b:=b) (by omega) (by omega) (by omega) (by omega) (by omega) (by omega) h1 h2
   exact⟨fun hn=>qn (by rw[he];simpa using hn),fun hy=>rY (by rw[he];simpa using hy)⟩
  refine⟨fun h0=>?_,fun h0=>⟨fun h3=>?_,fun h3=>⟨fun h2=>?_,fun h2=>⟨fun h1=>⟨⟨0,⟨by omega,by omega⟩,rfl,rfl,rfl,rfl,rfl⟩,fun g hg=>⟨fun hlt=>?_,fun hge=>?_⟩⟩,fun h1=>qn fun hh=>?_⟩⟩⟩⟩
  ·have h0:=ak h0;exact hb false (by omega) (by simp[h0])
  ·have h3:=ak h3;exact hb false (by omega) (by simp[h3])
  ·have h2:=ak h2;exact hb true (by omega) (by simp[h2])
  ·obtain⟨g0,g1⟩:=hg;have hlt:=ak hlt;refine⟨⟨g0,by omega⟩,by simp only[bh,cB];omega,g+1,⟨by omega,by omega⟩,by omega,rfl,NF g0 (by omega),rfl,rfl,rfl⟩
  ·obtain⟨g0,g1⟩:=hg;have hge:¬g<16:=aj hge;have h1:=ak h1;have e:g=16:=by omega
   subst e;have he:=HD (o:=o) (n:=n) (by omega) (by omega) (by omega) (by omega) (by omega) (by omega) h1
   exact⟨fun hn=>qn (by rw[he];simpa using hn),fun hy=>rY (by rw[he];simpa using hy)⟩
  ·have:=dK.1 hh;have h0:¬o.kind=0:=aj h0;have h1:¬o.kind=1:=aj h1;have h2:¬o.kind=2:=aj h2;have h3:¬o.kind=3:=aj h3;omega
theorem C6[Fen]:dO Tryz.prog 68 Om:=
 tZ BG (iO .i64) (fun _ _=>rfl) fun o n _ _=>bP (inl:=cH) (ann:=(lf [(68,12,WX [1,2,51] (fun g=> [(52,.it .i64 g),(5,.bo (pE o n g))]) CW 16)])) (aH VQ (aH gK (aH dC aP))) (TT o n) (by kernel_rfl)
end Go.Proofs.YtmfbohanboiklaaGreat
namespace Go.Sx
def bD(L:List Obj):Bool:=decide (aK L=0)
def bH(L:List Obj)(oid:Int):Int:=if aK L=0 then 1 else if oid<0\/(aK L:Int)<=oid then 4 else 0
def aQ(L:List Obj)(oid:Int):Obj:=if bH L oid=0 then aL L oid.toNat free else free
def aJ(L:List Obj):Int:=(aK L:Int)
def bk(L:List Obj)(k:Key):Bool:=bc k&&decide (bH L k.oid=0)&&cW k (aL L k.oid.toNat free)
def aG(L:List Obj)(k:Key):Obj:=if bk L k then aL L k.oid.toNat free else free
abbrev ay(L:List Obj)(k:Key)(i:Nat):Key:=(aG L k).slots.at i
def aI(L:List Obj)(k:Key):Key:=if bD L|| !aR k||(bc k&& !bk L k)then void else k
def kS(n:Int):Bool:=decide (1<=n)&&decide (n<=64)
def mY(n:Int):List Obj:=List.replicate n.toNat free
def cV(L:List Obj)(i:Int)(o:Obj):List Obj:=if bH L i=0/\c8 o (aK L:Int)=0 then eQ L i.toNat o else L
def fC(L:List Obj)(i:Int)(o:Obj):Int:=if bH L i=0 then c8 o (aK L:Int)else bH L i
def fc(l:List Obj):Bool:=decide (1<=aK l)&&decide (aK l<=64)&&(List.range (aK l)).all fun i=>bS (aL l i free) (aK l:Int)
def kr(l:List Obj)(g:Int):List Obj:=l.take g.toNat++List.replicate (l.length-g.toNat) free
def rV(l:List Obj)(g:Int):Prop:=0<=g/\g<=(aK l:Int)/\∀j:Nat,(j:Int)<g->bS (aL l j free) (aK l:Int)=true
def Dj(n i:Int):Prop:=0<=i/\i<=n
abbrev tS:Nat:=57
abbrev eS:Nat:=85
def W7(c:Bool)(M:List Obj)(v:V)(r:List aS):Prop:=
 match v with
 | .tp l=>match l with
   | [a,b]=>match a with
     | .nl p=>match p with
       | .pointer none=>c=false/\sX (.ci .i64 2) b r
       |_=>False
     | .lp j off=>match EY r j with
       |some (t,e,L)=>if off==0&&t==tS&&e==eS then c=true/\sX (.ci .i64 0) b r/\L=M else False
       |none=>False
     |_=>False
   |_=>False
 |_=>False
def adt(n:Int):V->List aS->Prop:=W7 (kS n) (mY n)
def kOf(l:List Obj)(v:V)(r:List aS):Prop:=
 match aN r 0 with
 | .ro _=>W7 (fc l) l v r
 |_=>False
theorem Ju{l:List Obj}{v:V}{r:List aS}(h:kOf l v r):W7 (fc l) l v r/\EY r 0=none:=by
 unfold kOf at h;split at h
 ·rename_i hr;refine⟨h,?_⟩;unfold EY EB;rw[hr]
 ·exact h.elim
def kSt(x:V)(M:List Obj)(v:V)(r:List aS):Prop:=
 match EB r 0 with
 |some (t,e,_,L)=>if t==tS&&e==eS then sX x v r/\L=M else False
 |none=>False
def Xz:lg:=fun args res K=>
 match args with
 | [a]=>match rI .i64 a with
   |some n=>(kS n=false->K (.tp [lX,.ci .i64 2]) res)/\(kS n=true->K (.tp [.lp res.length 0,.ci .i64 0]) (res++ [.store tS eS (mY n)]))
   |none=>False
 |_=>False
def isZ(c:V):Bool:=
 match c with
 | .ag l=>match l with
   | [x]=>match x with
     | .nl v=>match v with
       | .slice none 0 0=>true
       |_=>false
     |_=>false
   |_=>false
 |_=>false
theorem zV{c:V}(h:isZ c=true):c= .ag [.nl (.slice none 0 0)]:=by
 unfold isZ at h;split at h
 ·split at h
  ·split at h
   ·split at h
    ·rfl
    ·simp at h
   ·simp at h
  ·simp at h
 ·simp at h
def XD:lg:=fun args res K=>
 match args with
 | [a,b,c]=>match rI .i64 b with
   |some i=>match rO c with
    |some o=>match a with
     | .nl v=>match v with
       | .pointer none=>K (.it .i64 (fC [] i o)) res
       |_=>False
     | .lp k off=>if off==0 then match aN res k with
       | .store t e L=>if t==tS&&e==eS then K (.it .i64 (fC L i o)) (bR res k (.store tS eS (cV L i o)))else False
       | .blk t c=>if t==tS&&isZ c then K (.it .i64 (fC [] i o)) res else False
       |_=>False
       else False
     |_=>False
    |none=>False
   |none=>False
 |_=>False
structure Stp where
 puts:Bool
 oid:Int
 ob:Obj
def Stp.wf(x:Stp):Prop:=cB .i64 x.oid/\x.ob.wf
def TV:Ct:=mk0 (.bo true)
def Nk(L M:List Obj):Bool:=decide (L=M)
def iT(L M:List Obj)(g:Int):List Int:=((List.range g.toNat).filter fun j=> !GZ (aL L j free) (aL M j free)).map Int.ofNat
def kb(L M:List Obj):Bool:=bD L||bD M|| !decide ((aK L:Int)=(aK M:Int))
def dM(L M:List Obj):List Int:=iT L M (aK L:Int)
def lW(L:List Obj)(g:Int):List Obj:=L.take g.toNat
def p8(L:List Obj)(g:Int):Prop:=0<=g/\g<=(aK L:Int)
abbrev V5:V:= .nl (.slice none 0 0)
abbrev tI:Nat:=3
def Gp(L:List Obj)(v:V)(r:List aS):Prop:=
 match v with
 | .nl p=>match p with
   | .pointer none=>bD L=true
   |_=>False
 | .lp j off=>match EY r j with
   |some (t,e,M)=>if off==0&&t==tS&&e==eS&&Nat.ble 1 j then bD L=false/\M=L else False
   |none=>False
 |_=>False
def Oq(L M:List Obj)(v:V)(r:List aS):Prop:=
 match v with
 | .nl p=>match p with
   | .slice none 0 0=>kb L M=true
   |_=>False
 | .sa j=>match aN r j with
   | .arr own esz l=>match own with
     |some e=>match l with
      | .it k l=>match k with
        | .i64=>if e==tI&&esz==1&&Nat.ble 2 j then kb L M=false/\l=dM L M else False
        |_=>False
      |_=>False
     |none=>False
   |_=>False
 |_=>False
def Nw:lg:=fun args res K=>
 match args with
 | [a]=>match a with
   | .nl v=>match v with
     | .pointer none=>K lX res
     |_=>False
   | .lp k off=>if off==0 then match cC res k with
     | .store t e L=>if t==tS&&e==eS then aK L<=1000/\(bD L=true->K lX res)/\(bD L=false->K (.lp res.length 0) (res++ [.store tS eS L]))else False
     |_=>False
     else False
   |_=>False
 |_=>False
def XC:lg:=fun args res K=>
 match args with
 | [a,b]=>match b with
   | .lp j off=>if off==0 then match cC res j with
     | .store t e M=>if t==tS&&e==eS then match a with
       | .nl v=>match v with
         | .pointer none=>K V5 res
         |_=>False
       | .lp k off'=>if off'==0&& !(k==j)then match cC res k with
         | .store t e L=>if t==tS&&e==eS then aK L<=1000/\(kb L M=true->K V5 res)/\(kb L M=false->K (.sa res.length) (res++ [.arr (some tI) 1 (.it .i64 (dM L M))]))else False
         |_=>False
         else False
       |_=>False
       else False
     |_=>False
     else False
   |_=>False
 |_=>False
def IF:Ct:=fun res nid xs=>match xs with
 | [a]=>match rS tS eS res a with
   |some (o,L)=>match o with
    |none=>some (none,.cb true,[])
    |some _=>some (none,.bo (bD L),[])
   |none=>none
 |_=>none
theorem lu{α:Type}(l:List α):bV (aK l)=(l.length:Int):=rfl
theorem pN{α:Type}(l:List α):((aK l:Nat):Int)=(l.length:Int):=rfl
def Zx:lg:=fun args res K=>
 match args with
 | [a]=>match a with
   | .sa k=>match cC res k with
     | .arr _ e l=>if e==163 then match l with
       | .ob l=>(fc l=false->K (.tp [lX,.ci .i64 2]) res)/\(fc l=true->K (.tp [.lp res.length 0,.ci .i64 0]) (res++ [.store tS eS l]))
       |_=>False
       else False
     |_=>False
   |_=>False
 |_=>False
def TI:Ct:=mkA fun l=> .bo (fc l)
def Ig:Ct:=mkS tS eS fun L=> .bo (bD L)
def acE:Ct:=KS tS eS (rI .i64) fun L i=> .it .i64 (bH L i)
def abx:Ct:=KS tS eS (rI .i64) fun L i=> .tp [.ob (aQ L i),.it .i64 (bH L i)]
def HR:Ct:=mkS tS eS fun L=> .it .i64 (aJ L)
def TD:Ct:=KS tS eS rK fun L k=> .tp [.ob (aG L k),.bo (bk L k)]
def X5:Ct:=KS tS eS rK fun L k=> .key (aI L k)
theorem Ks{n:Nat}(h:n<1000):lr n 8:=by unfold lr;simp only[maxLen];omega
theorem Ph{L:List Obj}{g:Int}(h0:0<=g)(h1:g<(L.length:Int)):dn (lW L g) (aL L g.toNat free)=lW L (g+1):=by
 unfold dn lW aL;rw[show(g+1).toNat=g.toNat+1 by omega,List.take_add_one,an,List.getElem?_eq_getElem (by omega)];rfl
theorem RC{L:List Obj}{g:Int}(h:(L.length:Int)<=g):lW L g=L:=by unfold lW;rw[List.take_of_length_le (by omega)]
theorem QU{L:List Obj}{g:Int}:aK (lW L g)<=g.toNat:=by unfold aK lW;rw[List.length_take];omega
theorem Sy{L M:List Obj}{g:Int}:aK (iT L M g)<=g.toNat:=by
 unfold aK iT;rw[List.length_map];exact Nat.le_trans (List.length_filter_le _ _) (by rw[List.length_range];omega)
theorem PX{L M:List Obj}{g:Int}(h0:0<=g)(h:(!GZ (aL L g.toNat free) (aL M g.toNat free))=true):dn (iT L M g) g=iT L M (g+1):=by
 unfold dn iT;rw[show(g+1).toNat=g.toNat+1 by omega,List.range_succ,List.filter_append,List.map_append]
 simp only[List.filter_cons,h,if_true,List.filter_nil,List.map_cons,List.map_nil];congr 2
 show g=((g.toNat:Nat):Int)
 omega
theorem WR{L M:List Obj}{g:Int}(h0:0<=g)(h:(!GZ (aL L g.toNat free) (aL M g.toNat free))=false):iT L M g=iT L M (g+1):=by
 unfold iT;rw[show(g+1).toNat=g.toNat+1 by omega,List.range_succ,List.filter_append,List.map_append]
 simp only[List.filter_cons,h,Bool.false_eq_true,if_false,List.filter_nil,List.map_nil,List.append_nil]
theorem su:bD []=true:=rfl
theorem B5{L:List Obj}:bD L=true↔L= []:=by
 unfold bD aK;simp[List.length_eq_zero_iff]
theorem qi(i:Int):bH [] i=1:=rfl
theorem Px{L:List Obj}(h:bD L=false)(i:Int):bH L i=if i<0\/(L.length:Int)<=i then 4 else 0:=by
 have:L≠ []:=fun e=>by rw[e]at h;simp[su]at h
 unfold bH aK;rw[aq (by simpa[List.length_eq_zero_iff]using this)]
theorem jr{L:List Obj}{i:Int}:bH L i=0↔0<=i/\i<(L.length:Int):=by
 unfold bH aK;split
 ·omega
 ·split<;>omega
theorem Cd(L:List Obj)(k:Key):((!bc k)=true->free=aG L k/\false=bk L k)/\
  ((!bc k)=false->
    ((!decide (bH L (cz k)=0)|| !cW k (aQ L (cz k)))=true->
      free=aG L k/\false=bk L k)/\
      ((!decide (bH L (cz k)=0)|| !cW k (aQ L (cz k)))=false->
        aQ L (cz k)=aG L k/\true=bk L k)):=by
 have fin:∀b,bk L k=b->(b=false->free=aG L k)/\b=bk L k:=fun b h=>⟨fun hb=>by unfold aG;rw[h,hb];rfl,h.symm⟩
 refine⟨fun h=>?_,fun h=>?_⟩
 ·have h:bc k=false:=by simpa using h
  have:=fin false (by unfold bk;rw[h];rfl)
  exact⟨this.1 rfl,this.2⟩
 ·have h:bc k=true:=by simpa using h
  have ho:cz k=k.oid:=by unfold cz;rw[ar h]
  rw[ho];by_cases hh:bH L k.oid=0
  ·have hg:aQ L k.oid=aL L k.oid.toNat free:=by unfold aQ;rw[ar hh]
   rw[hg];have e:bk L k=cW k (aL L k.oid.toNat free):=by unfold bk;simp[h,hh]
   refine⟨fun hc=>?_,fun hc=>?_⟩
   ·have hc:cW k (aL L k.oid.toNat free)=false:=by simpa[hh]using hc
    have:=fin false (by rw[e,hc])
    exact⟨this.1 rfl,this.2⟩
   ·have hc:cW k (aL L k.oid.toNat free)=true:=by simpa[hh]using hc
    have:=fin true (by rw[e,hc])
    refine⟨?_,this.2⟩;unfold aG;rw[e,hc];rfl
  ·have:=fin false (by unfold bk;simp[hh])
   exact⟨fun _=>⟨this.1 rfl,this.2⟩,fun hc=>by simp[hh]at hc⟩
theorem FE(L:List Obj)(k:Key):((bD L|| !decide (bO k=0))=true->void=aI L k)/\
  ((bD L|| !decide (bO k=0))=false->
    ((bc k&& !bk L k)=true->void=aI L k)/\((bc k&& !bk L k)=false->k=aI L k)):=by
 have hc:(!decide (bO k=0))= !aR k:=by unfold bO;cases aR k<;>simp
 rw[hc];unfold aI;refine⟨fun h=>?_,fun h=>⟨fun h2=>?_,fun h2=>?_⟩⟩
 ·rw[ar];simp only[h,Bool.true_or]
 ·rw[ar];simp only[h2,Bool.or_true]
 ·rw[aq];simp only[h,h2];simp
theorem sD{n:Int}:kS n=true↔1<=n/\n<=64:=by simp[kS]
theorem Ud{g:Int}(h:0<=g):dn (mY g) free=mY (g+1):=by
 unfold dn mY;rw[show(g+1).toNat=g.toNat+1 by omega,List.replicate_succ']
theorem Ku{i:Int}{o:Obj}:fC [] i o=1:=by unfold fC;rw[qi];rfl
theorem Uv{L:List Obj}{i:Int}{o:Obj}(h:bH L i≠0):fC L i o=bH L i/\cV L i o=L:=by
 unfold fC cV;rw[aq h,aq (fun hh=>h hh.1)];exact⟨rfl,rfl⟩
theorem ZN{L:List Obj}{i:Int}{o:Obj}(h:bH L i=0)(h2:c8 o (aK L:Int)≠0):fC L i o=c8 o (aK L:Int)/\cV L i o=L:=by
 unfold fC cV;rw[ar h,aq (fun hh=>h2 hh.2)];exact⟨rfl,rfl⟩
theorem vM{L:List Obj}{i:Int}{o:Obj}(h:bH L i=0)(h2:c8 o (aK L:Int)=0):fC L i o=0/\cV L i o=eQ L i.toNat o:=by
 unfold fC cV;rw[ar h,ar ⟨h,h2⟩];exact⟨h2,rfl⟩
theorem NC{c:Bool}{M:List Obj}(hn:c=false){v:V}{r:List aS}(h:W7 c M v r):vZ (.tp [lX,.ci .i64 2]) v []:=by
 unfold W7 at h;split at h
 ·split at h
  ·split at h
   ·split at h
    ·exact TJ (eC h.2)
    ·exact h.elim
   ·split at h
    ·split at h
     ·rw[hn]at h;simp at h
     ·exact h.elim
    ·exact h.elim
   ·exact h.elim
  ·exact h.elim
 ·exact h.elim
theorem TM{c:Bool}{M:List Obj}(hn:c=true){v:V}{r:List aS}(h:W7 c M v r):∃j b,v= .tp [.lp j 0,b]/\vZ (.ci .i64 0) b []/\EY r j=some (tS,eS,M):=by
 unfold W7 at h;split at h
 ·split at h
  ·split at h
   ·split at h
    ·rw[hn]at h;simp at h
    ·exact h.elim
   ·split at h
    ·rename_i hst;split at h
     ·rename_i hc;simp only[af,ai]at hc;obtain⟨⟨rfl,rfl⟩,rfl⟩:=hc;obtain⟨_,h2,rfl⟩:=h;exact⟨_,_,rfl,eC h2,hst⟩
     ·exact h.elim
    ·exact h.elim
   ·exact h.elim
  ·exact h.elim
 ·exact h.elim
theorem KA{c:Bool}{M:List Obj}(hn:c=true){v:V}{r:List aS}(h:W7 c M v r):∃j r',EY r j=some (tS,eS,M)/\(r'=r\/vI r j=some r')/\aN r' j= .store tS eS M/\∀(κ:Nat->Option Nat) (i:Nat),κ j=some i->kJ κ v (.tp [.lp i 0,.ci .i64 0]):=by
 obtain⟨j,b,rfl,hb,hst⟩:=TM hn h
 have ht:∀(κ:Nat->Option Nat) (i:Nat),κ j=some i->kJ κ (.tp [.lp j 0,b]) (.tp [.lp i 0,.ci .i64 0]):=fun κ i hi ρ2 ρ3 N N' hv hN hk=>by
  obtain⟨s1,s2,_⟩:=hb ρ2 N;refine⟨?_,hN j i hi hk.1,by simp[ok,cB],trivial⟩
  simp only[den,bG,(hv j i hi).1,s1]
 rcases EE hst with h1|⟨r',h1,h2⟩
 ·exact⟨j,r,hst,.inl rfl,h1,ht⟩
 ·exact⟨j,r',hst,.inr h1,h2,ht⟩
theorem VC{x:V}{M:List Obj}{v:V}{r:List aS}(h:kSt x M v r):∃t,EB r 0=some (tS,eS,t,M)/\vZ x v r:=by
 unfold kSt at h;split at h
 ·rename_i hst;split at h
  ·rename_i hc;simp only[af,ai]at hc;obtain⟨rfl,rfl⟩:=hc;obtain⟨h1,rfl⟩:=h;exact⟨_,hst,eC h1⟩
  ·exact h.elim
 ·exact h.elim
theorem ac6[Fen]{P:Program}{f:Nat}{rest:List V}{res:List aS}{K KP:V->List aS->Prop}{k:Nat}{L M:List Obj}{x:V}(hr:aN res k= .store tS eS L)(hid:mc rest=true)(hx:kR x=true)
  (h:(∀o∈L,o.wf)->L.length<=9223372036854775807->aM P f (.lp 0 0::rest) [.blk tS (.ag [.sa 1]),.obs eS 2 L,.gen 1] (kSt x M) (fun _ _=>False)) (hK:K x (bR res k (.store tS eS M))):aM P f (.lp k 0::rest) res K KP:=by
 refine aM.CP hr hid hx ?_ hK;refine aM.fact (k:=0) rfl fun w1 w2=>?_
 refine aM.kG (k:=0) rfl ?_;refine aM.shut (h w1 w2) fun v r hv=>?_
 obtain⟨t,h1,h2⟩:=VC hv;obtain⟨r',g1,g2⟩:=B0 h1;exact .inr ⟨0,r',g1,fun J K=>h2 J K,g2⟩
theorem gq{l:List Obj}:fc l=true↔1<=l.length/\l.length<=64/\∀i,i<l.length->bS (aL l i free) (l.length:Int)=true:=by
 unfold fc aK;simp only[af,ah,List.all_eq_true,List.mem_range,and_assoc]
theorem uW{l:List Obj}(h:¬(1<=l.length/\l.length<=64/\∀i,i<l.length->bS (aL l i free) (l.length:Int)=true)):fc l=false:=by
 cases hr:fc l with
 |false=>rfl
 |true=>exact absurd (gq.1 hr) h
theorem yM{l:List Obj}{g:Int}(h1:g<=(l.length:Int)):(kr l g).length=l.length:=by
 unfold kr;simp only[List.length_append,List.length_take,List.length_replicate];omega
theorem ND{l:List Obj}:mY (l.length:Int)=kr l 0:=by unfold mY kr;simp
theorem T1{l:List Obj}{g:Int}(h:(l.length:Int)<=g):kr l g=l:=by
 unfold kr;rw[List.take_of_length_le (by omega),show l.length-g.toNat=0 by omega];simp
theorem Uk{l:List Obj}{g:Int}(h0:0<=g)(h1:g<(l.length:Int)):eQ (kr l g) g.toNat (aL l g.toNat free)=kr l (g+1):=by
 unfold eQ kr aL;obtain⟨n,rfl⟩:=Int.eq_ofNat_of_zero_le h0;have hn:n<l.length:=by omega
 have e1:((n:Int)+1).toNat=n+1:=by omega
 have e2:((n:Int)).toNat=n:=by omega
 rw[e1,e2];apply List.ext_getElem?
 intro i;rw[List.getElem?_set];have hlt:(List.take n l++List.replicate (l.length-n) free).length=l.length:=by simp;omega
 have htl:(List.take n l).length=n:=by simp;omega
 have htl1:(List.take (n+1) l).length=n+1:=by simp;omega
 by_cases hi:n=i
 ·subst hi;rw[ar rfl,ar (by rw[hlt];exact hn),List.getElem?_append_left (by rw[htl1];omega),List.getElem?_take,ar (by omega),an,List.getElem?_eq_getElem hn];rfl
 ·rw[aq hi];by_cases hl:i<n
  ·rw[List.getElem?_append_left (by rw[htl];exact hl),List.getElem?_append_left (by rw[htl1];omega),List.getElem?_take,List.getElem?_take,ar hl,ar (by omega)]
  ·rw[List.getElem?_append_right (by rw[htl];omega),List.getElem?_append_right (by rw[htl1];omega),htl,htl1,List.getElem?_replicate,List.getElem?_replicate]
   by_cases hb:i<l.length
   ·rw[ar (by omega),ar (by omega)]
   ·rw[aq (by omega),aq (by omega)]
theorem aav{l:List Obj}{g:Int}(h0:0<=g)(h1:g<(l.length:Int))(x:Obj):fC (kr l g) g x=c8 x (l.length:Int):=by
 have hh:bH (kr l g) g=0:=jr.2 (by rw[yM (by omega)];exact⟨h0,h1⟩)
 unfold fC aK;rw[ar hh,yM (by omega)]
theorem S7{l:List Obj}{g:Int}(h0:0<=g)(h1:g<(l.length:Int))(hx:c8 (aL l g.toNat free) (l.length:Int)=0):cV (kr l g) g (aL l g.toNat free)=kr l (g+1):=by
 have hh:bH (kr l g) g=0:=jr.2 (by rw[yM (by omega)];exact⟨h0,h1⟩)
 unfold cV aK;rw[ar ⟨hh,by rw[yM (by omega)];exact hx⟩]
 exact Uk h0 h1
theorem tX(o:Obj)(n:Int):(c8 o n=0/\bS o n=true)\/(c8 o n=2/\bS o n=false):=by
 unfold c8;cases bS o n<;>simp
theorem j5(k:Key):(bc k=true/\cx k=k.oid/\0<=k.oid)\/(bc k=false/\cx k= -1):=by
 have h:cx k=if bc k then k.oid else -1:=rfl
 cases hn:bc k
 ·exact .inr ⟨rfl,by rw[h,hn];rfl⟩
 ·refine .inl ⟨rfl,by rw[h,hn];rfl,?_⟩
  unfold bc at hn;simp only[af]at hn;have:=hn.1;simp only[aR,eH,hn.2,if_true,af,ah]at this;omega
theorem Ch(L:List Obj)(k:Key):aI L (aI L k)=aI L k:=by
 cases h:(bD L|| !aR k||(bc k&& !bk L k))with
 |true=>
  have e:aI L k=void:=by unfold aI;rw[h];rfl
  rw[e];unfold aI;split<;>rfl
 |false=>
  have e:aI L k=k:=by unfold aI;rw[h];rfl
  rw[e,e]
theorem AH{l:List Obj}{k:Key}(h:bk l k=true):0<=cx k/\cx k<(l.length:Int)/\aG l k=aL l (cx k).toNat free:=by
 have h':=h;unfold bk at h;simp only[af,ah]at h;have hb:=jr.1 h.1.2;rcases j5 k with⟨h1,h2,h3⟩|⟨h1,h2⟩
 ·rw[h2];exact⟨hb.1,hb.2,by unfold aG;rw[h',ar rfl]⟩
 ·rw[h1]at h;simp at h
theorem uE{L M:List Obj}(h:L.length=M.length)(h2:∀j:Nat,j<L.length->aL L j free=aL M j free):L=M:=by
 apply List.ext_getElem h
 intro i h3 h4;have:=h2 i h3;unfold aL at this;simpa[an,h3,h4]using this
end Go.Sx
namespace Go.Proofs.YtmfbohanboiklaaGreat
open Go.Sx
theorem P9:
 true=bD []:=by
 rfl
theorem Nv(L:List Sx.Obj):
 decide (bV (aK L)=0)=bD L:=by
 unfold bD bV aK;rw[decide_eq_decide];omega
theorem qt[Fen]:dO Tryz.prog 45 Ig:=
 N9 (fun _=>rfl) (bP (inl:=cH) (ann:=bn) aP P9 (by kernel_rfl)) (fun L _ _=>bP (inl:=cH) (ann:=bn) aP (Nv L) (by kernel_rfl))
theorem Wb(i:Int):
 (bD []=true->1=bH [] i)/\
  (bD []=false->((!decide (i<0))=true->False)/\((!decide (i<0))=false->4=bH [] i)):=by
 exact⟨fun _=>rfl,fun h=>by simp[su]at h⟩
theorem TA(L:List Sx.Obj)(i:Int):
 (bD L=true->1=bH L i)/\
  (bD L=false->
   ((decide (i<0)||decide (bV (aK L)<=i))=true->4=bH L i)/\
     ((decide (i<0)||decide (bV (aK L)<=i))=false->0=bH L i)):=by
 refine⟨fun h=>?_,fun h=>?_⟩
 ·rw[B5.1 h];rfl
 ·rw[Px h];unfold bV aK;refine⟨fun h1=>?_,fun h1=>?_⟩
  ·simp only[Bool.or_eq_true,ah]at h1;rw[ar h1]
  ·simp only[Bool.or_eq_false_iff,decide_eq_false_iff_not]at h1;rw[aq (by omega)]
theorem zI[Fen]:dO Tryz.prog 44 acE:=
 yj (iO .i64) (fun _ _=>rfl) (fun x _=>bP (inl:=cH) (ann:=bn) (aH qt aP) (Wb x) (by kernel_rfl)) (fun L x _ _ _=>bP (inl:=cH) (ann:=bn) (aH qt aP) (TA L x) (by kernel_rfl)) fun _=>rfl
theorem QP:
 (bD []=true->0=aJ [])/\(bD []=false->False):=by
 exact⟨fun _=>rfl,fun h=>by simp[su]at h⟩
theorem Ol(L:List Sx.Obj):
 (bD L=true->0=aJ L)/\(bD L=false->bV (aK L)=aJ L):=by
 exact⟨fun h=>by rw[B5.1 h];rfl,fun _=>rfl⟩
theorem bF[Fen]:dO Tryz.prog 29 HR:=
 N9 (fun _=>rfl) (bP (inl:=cH) (ann:=bn) (aH qt aP) QP (by kernel_rfl)) (fun L _ _=>bP (inl:=cH) (ann:=bn) (aH qt aP) (Ol L) (by kernel_rfl))
theorem U8(i:Int):
 ((!decide (bH [] i=0))=true->free=aQ [] i/\bH [] i=bH [] i)/\
   ((!decide (bH [] i=0))=false->False):=by
 exact⟨fun _=>⟨rfl,rfl⟩,fun h=>by simp[qi]at h⟩
theorem S4(L:List Sx.Obj)(i:Int):
 ((!decide (bH L i=0))=true->free=aQ L i/\bH L i=bH L i)/\
   ((!decide (bH L i=0))=false->
     (0<=i/\i< ↑(aK L))/\i.toNat<aK L/\i.toNat<aK L/\aL L i.toNat free=aQ L i/\0=bH L i):=by
 refine⟨fun h=>⟨?_,rfl⟩,fun h=>?_⟩
 ·unfold aQ;rw[aq (by simpa using h)]
 ·have h:bH L i=0:=by simpa using h
  have hb:=jr.1 h;unfold aQ aK;rw[ar h,h];exact⟨hb,by omega,by omega,rfl,rfl⟩
theorem fi[Fen]:dO Tryz.prog 25 abx:=
 yj (iO .i64) (fun _ _=>rfl) (fun x _=>bP (inl:=cH) (ann:=bn) (aH zI aP) (U8 x) (by kernel_rfl)) (fun L x _ _ _=>bP (inl:=cH) (ann:=bn) (aH zI aP) (S4 L x) (by kernel_rfl)) fun _=>rfl
theorem KM(k:Key):
 au (!bc k) (free=aG [] k/\false=bk [] k) (au (!decide (bH [] (cz k)=0)|| !cW k (aQ [] (cz k))) (free=aG [] k/\false=bk [] k) (aQ [] (cz k)=aG [] k/\true=bk [] k)):=by
 delta au
 exact Cd [] k
theorem KI(L:List Sx.Obj)(k:Key):
 au (!bc k) (free=aG L k/\false=bk L k) (au (!decide (bH L (cz k)=0)|| !cW k (aQ L (cz k))) (free=aG L k/\false=bk L k) (aQ L (cz k)=aG L k/\true=bk L k)):=by
 delta au
 exact Cd L k
theorem bT[Fen]:dO Tryz.prog 47 TD:=
 yj iF (fun _ _=>rfl) (fun x _=>bP (inl:=cH) (ann:=bn) (aH dC (aH fi (aH Ad aP))) (KM x) (by kernel_rfl)) (fun L x _ _ _=>bP (inl:=cH) (ann:=bn) (aH dC (aH fi (aH Ad aP))) (KI L x) (by kernel_rfl)) fun _=>rfl
theorem aay(n:Int):
 au (decide (n<1)||decide (64<n)) (kS n=false/\True) ((∃g,Dj n g/\Value.pointer none=Value.pointer none/\n=n/\0=g/\[]=mY g)/\∀(g:Int),Dj n g->au (decide (g<n)) (lr (aK (mY g)) 8/\bh IntKind.i64 (g+1)/\∃g',Dj n g'/\(n-g').toNat<(n-g).toNat/\Value.pointer none=Value.pointer none/\n=n/\g+1=g'/\dn (mY g) free=mY g') (kS n=true/\True/\mY g=mY n)):=by
 delta au
 refine⟨fun h=>⟨?_,trivial⟩,fun h=>⟨⟨0,?_,rfl,rfl,rfl,rfl⟩,fun g hg=>⟨fun hlt=>?_,fun hge=>?_⟩⟩⟩
 ·simp only[Bool.or_eq_true,ah]at h;unfold kS;rw[Bool.and_eq_false_iff,decide_eq_false_iff_not,decide_eq_false_iff_not];omega
 ·simp only[Bool.or_eq_false_iff,decide_eq_false_iff_not]at h;exact⟨by omega,by omega⟩
 ·simp only[Bool.or_eq_false_iff,decide_eq_false_iff_not]at h;obtain⟨g0,g1⟩:=hg;have hlt:=ak hlt;refine⟨?_,?_,g+1,⟨by omega,by omega⟩,by omega,rfl,rfl,rfl,Ud g0⟩
  ·unfold lr aK mY;simp only[List.length_replicate,maxLen];omega
  ·simp only[bh,cB];omega
 ·simp only[Bool.or_eq_false_iff,decide_eq_false_iff_not]at h;obtain⟨g0,g1⟩:=hg;have hge:=aj hge;exact⟨sD.2 (by omega),trivial,by rw[show g=n by omega]⟩
theorem PW[Fen](n:Int):aM Tryz.prog 14 [.it .i64 n] [] (adt n) (fun _ _=>False):=bP (inl:=cH) (ann:=(lf [(14,5,lpB [2,3,4,13] (fun g=> [(14,.it .i64 g)]) 0 tS eS mY (Dj n) n)])) aP (aay n) (by kernel_rfl)
theorem Yl[Fen]:l5 Tryz.prog 14 Xz:=by
 intro args res K KP h;unfold Xz at h;split at h
 ·split at h
  ·rename_i n hn;refine aM.args (fw.rd (iO .i64) hn fw.nil) ?_;cases hb:kS n with
   |false=>exact aM.pure rfl rfl ((PW n).mono (fun v r hv=>NC hb hv) fun _ _ h=>h) (h.1 hb)
   |true=>
    refine aM.TN (F:=fun j=> .tp [.lp j 0,.ci .i64 0]) rfl ?_ (h.2 hb)
    refine aM.shut (PW n) fun v r hv=>?_
    obtain⟨j,r',_,h1,h2,h3⟩:=KA hb hv;rcases h1 with rfl|h1
    ·exact .inl ⟨j,h2,h3⟩
    ·exact .inr ⟨j,r',h1,j,h2,h3⟩
  ·exact h.elim
 ·exact h.elim
theorem Wo(i:Int)(o:Sx.Obj):
 ((!decide (bH [] i=0))=true->bH [] i=fC [] i o)/\((!decide (bH [] i=0))=false->False):=by
 refine⟨fun _=>?_,fun h=>by simp[qi]at h⟩
 rw[Ku,qi]
theorem TS[Fen](i:Int)(o:Sx.Obj):aM Tryz.prog 41 [lX,.it .i64 i,.ob o] [] (sX (.it .i64 (fC [] i o))) (fun _ _=>False):=bP (inl:=cH) (ann:=bn) (aH zI (aH C6 aP)) (Wo i o) (by kernel_rfl)
theorem Uu(L:List Sx.Obj)(i:Int)(o:Sx.Obj):
 au (!decide (bH L i=0)) (bH L i=fC L i o/\L=cV L i o) (au (!decide (c8 o (bV (aK L))=0)) (c8 o (bV (aK L))=fC L i o/\L=cV L i o) ((0<=i/\i< ↑(aK L))/\i.toNat<aK L/\0=fC L i o/\eQ L i.toNat o=cV L i o)):=by
 delta au
 refine⟨fun h=>?_,fun h=>⟨fun h2=>?_,fun h2=>?_⟩⟩
 ·obtain⟨a,b⟩:=Uv (o:=o) (show bH L i≠0 by simpa using h)
  rw[a,b];exact⟨rfl,rfl⟩
 ·obtain⟨a,b⟩:=ZN (o:=o) (show bH L i=0 by simpa using h) (show c8 o (aK L:Int)≠0 by unfold bV at h2;simpa using h2)
  rw[a,b];exact⟨rfl,rfl⟩
 ·have h:=(show bH L i=0 by simpa using h)
  have hb:=jr.1 h;obtain⟨a,b⟩:=vM (o:=o) h (show c8 o (aK L:Int)=0 by unfold bV at h2;simpa using h2)
  rw[a,b];exact⟨hb,by unfold aK;omega,rfl,rfl⟩
theorem Tm[Fen](L:List Sx.Obj)(i:Int)(o:Sx.Obj):aM Tryz.prog 41 [.lp 0 0,.it .i64 i,.ob o] [.blk tS (.ag [.sa 1]),.obs eS 2 L,.gen 1] (kSt (.it .i64 (fC L i o)) (cV L i o)) (fun _ _=>False):=bP (inl:=cH) (ann:=bn) (aH zI (aH C6 aP)) (Uu L i o) (by kernel_rfl)
theorem WS(i:Int)(o:Sx.Obj):
 ((!decide (bH [] i=0))=true->bH [] i=fC [] i o)/\
   ((!decide (bH [] i=0))=false->
     ((!decide (c8 o 0=0))=true->c8 o 0=fC [] i o)/\((!decide (c8 o 0=0))=false->False)):=by
 refine⟨fun _=>?_,fun h=>by simp[qi]at h⟩
 rw[Ku,qi]
theorem Vr[Fen](i:Int)(o:Sx.Obj):aM Tryz.prog 41 [.lp 0 0,.it .i64 i,.ob o] [.ro (.blk tS (.ag [.nl (.slice none 0 0)]))] (sX (.it .i64 (fC [] i o))) (fun _ _=>False):=bP (inl:=cH) (ann:=bn) (aH zI (aH C6 aP)) (WS i o) (by kernel_rfl)
theorem dI[Fen]:l5 Tryz.prog 41 XD:=by
 intro args res K KP h;unfold XD at h;split at h
 ·split at h
  ·rename_i i hi;split at h
   ·rename_i o ho;refine aM.args (fw.lq (fw.rd (iO .i64) hi (fw.rd BG ho fw.nil))) ?_;split at h
    ·split at h
     ·exact aM.pure rfl rfl ((TS i o).mono (fun _ _ h=>eC h) fun _ _ h=>h) h
     ·exact h.elim
    ·split at h
     ·rename_i hoff;have hoff:=ai.1 hoff;subst hoff;split at h
      ·rename_i hr;split at h
       ·rename_i hc;simp only[af,ai]at hc;obtain⟨rfl,rfl⟩:=hc;exact ac6 hr rfl rfl (fun _ _=>Tm _ i o) h
       ·exact h.elim
      ·rename_i hr;split at h
       ·rename_i hc;simp only[af,ai]at hc;obtain⟨rfl,hz⟩:=hc;have:=zV hz;subst this;refine aM.Q7 (r0:= .blk tS (.ag [.nl (.slice none 0 0)])) (by unfold cC;rw[hr]) (by simp) (fun κ=>rfl) rfl rfl ((Vr i o).mono (fun _ _ h=>eC h) fun _ _ h=>h) h
       ·exact h.elim
      ·exact h.elim
     ·exact h.elim
    ·exact h.elim
   ·exact h.elim
  ·exact h.elim
 ·exact h.elim
theorem Q9(l:List Sx.Obj)(hl:l.length<=9223372036854775807):
 au (decide (bV (aK l)<1)||decide (64<bV (aK l))) (false=fc l) ((∃g,rV l g/\false=false/\0=g/\l=l)/\∀(g:Int),rV l g->au (decide (g<bV (aK l))) ((0<=g/\g< ↑(aK l))/\g.toNat<aK l/\au (!decide (c8 (aL l g.toNat free) (bV (aK l))=0)) (false=fc l) (bh IntKind.i64 (g+1)/\∃g',rV l g'/\(bV (aK l)-g').toNat<(bV (aK l)-g).toNat/\false=false/\g+1=g'/\l=l)) (true=fc l)):=by
 delta au
 refine⟨fun h=>?_,fun h=>⟨⟨0,⟨by omega,by omega,fun j hj=>by omega⟩,rfl,rfl,rfl⟩,fun g hg=>⟨fun hlt=>?_,fun hge=>?_⟩⟩⟩
 ·simp only[Bool.or_eq_true,ah]at h;simp only[lu]at h;exact(uW fun hh=>by have h1:=hh.1;have h2:=hh.2.1;omega).symm
 ·obtain⟨g0,g1,g2⟩:=hg;have hlt:=ak hlt;unfold bV at *;refine⟨⟨g0,hlt⟩,by omega,fun hb=>(uW fun hh=>?_).symm,fun hb=>⟨?_,g+1,⟨by omega,by omega,fun j hj=>?_⟩,by omega,rfl,rfl,rfl⟩⟩
  ·have:=hh.2.2 g.toNat (by unfold aK at hlt;omega)
   unfold c8 aK at hb;rw[this]at hb;simp at hb
  ·simp only[bh,cB];unfold aK at *;omega
  ·by_cases e:(j:Int)<g
   ·exact g2 j e
   ·have:j=g.toNat:=by omega
    subst this;rcases tX (aL l g.toNat free) (aK l:Int)with⟨h1,h2⟩|⟨h1,h2⟩
    ·exact h2
    ·rw[h1]at hb;simp at hb
 ·obtain⟨g0,g1,g2⟩:=hg;have hge:=aj hge;have hle:=pN l;simp only[Bool.or_eq_false_iff,decide_eq_false_iff_not]at h;simp only[lu]at h hge;exact(gq.2 ⟨by omega,by omega,fun i hi=>g2 i (by omega)⟩).symm
theorem Pt[Fen]:dO Tryz.prog 19 TI:=YN (fun _=>rfl) fun l _ hl=>bP (inl:=cH) (ann:=(lf [(19,4,WX [0,2] (fun g=> [(3,.it .i64 g)]) (rV l) (bV (aK l)))])) (aH Rq aP) (Q9 l hl) (by kernel_rfl)
theorem acG(l:List Sx.Obj)(hl:l.length<=9223372036854775807):
 true=true/\(kS (bV (aK l))=false->fc l=false/\True)/\(kS (bV (aK l))=true->(∃g,rV l g/\Value.pointer none=Value.pointer none/\bV (aK l)=bV (aK l)/\0=g/\l=l/\mY (bV (aK l))=kr l g)/\∀(g:Int),rV l g->au (decide (g<bV (aK l))) ((0<=g/\g< ↑(aK l))/\g.toNat<aK l/\true=true/\au (!decide (fC (kr l g) g (aL l g.toNat free)=0)) (fc l=false/\fC (kr l g) g (aL l g.toNat free)=2) (bh IntKind.i64 (g+1)/\∃g',rV l g'/\(bV (aK l)-g').toNat<(bV (aK l)-g).toNat/\Value.pointer none=Value.pointer none/\bV (aK l)=bV (aK l)/\g+1=g'/\l=l/\cV (kr l g) g (aL l g.toNat free)=kr l g')) (fc l=true/\True/\kr l g=l)):=by
 delta au
 refine⟨rfl,fun h=>⟨uW fun hh=>?_,trivial⟩,fun h=>⟨⟨0,⟨by omega,by omega,fun j hj=>by omega⟩,rfl,rfl,rfl,rfl,ND⟩,fun g hg=>⟨fun hlt=>?_,fun hge=>?_⟩⟩⟩
 ·have:kS (bV (aK l))=true:=sD.2 (by unfold bV aK;omega)
  rw[this]at h;simp at h
 ·obtain⟨g0,g1,g2⟩:=hg;have hlt:=ak hlt;have h:=sD.1 h;have hle:=pN l;simp only[lu]at *;rw[aav g0 hlt];refine⟨⟨g0,hlt⟩,by omega,trivial,fun hb=>⟨uW fun hh=>?_,?_⟩,fun hb=>⟨?_,g+1,⟨by omega,by omega,fun j hj=>?_⟩,by omega,trivial,trivial,rfl,trivial,S7 g0 hlt (by simpa using hb)⟩⟩
  ·have:=hh.2.2 g.toNat (by omega)
   unfold c8 at hb;rw[this]at hb;simp at hb
  ·rcases tX (aL l g.toNat free) (l.length:Int)with⟨h1,h2⟩|⟨h1,h2⟩
   ·rw[h1]at hb;simp at hb
   ·exact h1
  ·simp only[bh,cB];omega
  ·by_cases e:(j:Int)<g
   ·exact g2 j e
   ·have:j=g.toNat:=by omega
    subst this;rcases tX (aL l g.toNat free) (l.length:Int)with⟨h1,h2⟩|⟨h1,h2⟩
    ·exact h2
    ·rw[h1]at hb;simp at hb
 ·obtain⟨g0,g1,g2⟩:=hg;have hge:=aj hge;have h:=sD.1 h;have hle:=pN l;simp only[lu]at *;exact⟨gq.2 ⟨by omega,by omega,fun i hi=>g2 i (by omega)⟩,trivial,T1 (by omega)⟩
theorem Xt[Fen](l:List Sx.Obj)(own:Option Nat):aM Tryz.prog 20 [.sa 0] [.ro (.arr own 163 (.ob l))] (kOf l) (fun _ _=>False):=
 aM.acs (aM.Xe (k:=0) rfl fun _ hl=>(bU (inl:=cH) (ann:=(lf [(20,5,lpR [0,2,3,4,5,18,19] (fun g=> [(20,.it .i64 g)]) 1 (fun g=> .store tS eS (kr l g)) (rV l) (bV (aK l)))])) aP (aW Yl (aW dI aT)) (acG l hl) (by kernel_rfl):aM Tryz.prog 20 [.sa 0] [.ro (.arr none 163 (.ob l))] (kOf l) (fun _ _=>False)))
theorem Xs[Fen]:l5 Tryz.prog 20 Zx:=by
 intro args res K KP h;unfold Zx at h;split at h
 ·split at h
  ·split at h
   ·rename_i hr;split at h
    ·rename_i he;have he:=ai.1 he;subst he;split at h
     ·rename_i l;cases hb:fc l with
      |false=>exact aM.abT hr rfl rfl ((Xt l _).mono (fun v r hv=>NC hb (Ju hv).1) fun _ _ h=>h) (h.1 hb)
      |true=>
       refine aM.SD (F:=fun j=> .tp [.lp j 0,.ci .i64 0]) hr rfl ?_ (h.2 hb)
       refine aM.shut (Xt l _) fun v r hv=>?_
       obtain⟨hv,h0⟩:=Ju hv;obtain⟨j,r',hs,h1,h2,h3⟩:=KA hb hv
       have hj:1<=j:=by
        rcases Nat.eq_zero_or_pos j with rfl|hj
        ·rw[h0]at hs;simp at hs
        ·exact hj
       rcases h1 with rfl|h1
       ·exact .inl ⟨j,hj,h2,h3⟩
       ·exact .inr ⟨j,r',h1,j,hj,h2,h3⟩
     ·exact h.elim
    ·exact h.elim
   ·exact h.elim
  ·exact h.elim
 ·exact h.elim
end Go.Proofs.YtmfbohanboiklaaGreat
namespace Go.Sx
def kT(r b:Int):Bool:=decide ((r.tdiv b).tmod 2=1)
def uw(r m g:Int):Int:=(if 2<=g/\(kT r 1||kT m 1)=true then 1 else 0)+(if 4<=g/\(kT r 2||kT m 2)=true then 2 else 0)+(if 8<=g/\(kT r 4||kT m 4)=true then 4 else 0)
def bM(r m:Int):Int:=uw r m 8
def cU(k:Key)(r:Int):Key:= {k with rights:=r}
def gH(k:Key):Key:=if k.kind=2 then cU k (bM k.rights 3)else if k.kind=3 then cU k 1 else if k.kind=1\/k.kind=8 then k else void
def ea(k:Key):Key:=if aR k then gH k else void
def MQ:Ct:=W5 rK fun k=> .tp [.key (ea k),.it .i64 (bO k)]
def bq(L:List Obj)(k:Key)(kind:Int)(c:Bool):Int:=if aK L=0 then 1 else if(!bk L k|| !decide (k.kind=kind))=true then 190 else if(c&& !decide (k.rights.tmod 4=0))=true then 191 else 0
def du(k:Key):Bool:=decide ((k.rights.tdiv 2).tmod 2=1)
def jV(L:List Obj)(o:Obj)(k:Key)(i:Int):Key:=if du k then gH (aI L (o.slots.at i.toNat))else aI L (o.slots.at i.toNat)
def e9(L:List Obj)(k:Key)(i:Int):Key:=jV L (aL L k.oid.toNat free) k i
def pd(k:Key)(i:Int):Prop:=0<=i/\i<16/\aR k=true
def lh(i:Int):Bool:=decide (0<=i)&&decide (i<16)
def dB(L:List Obj)(k:Key)(i:Int):Int:=if bq L k 2 false=0 then(if lh i then 0 else 4)else bq L k 2 false
def bf(L:List Obj)(k:Key)(i:Int):Key:=if dB L k i=0 then e9 L k i else void
def cS(L:List Obj)(v:Key):Bool:=aR v&&decide (cx v<(aK L:Int))
def bY(L:List Obj)(k:Key)(i:Int)(v:Key):Int:=if bq L k 2 true=0 then(if lh i then(if cS L v then 0 else 2)else 4)else bq L k 2 true
def fa(L:List Obj)(k:Key)(i:Int)(v:Key):Key:=if bY L k i v=0 then e9 L k i else void
def gY(o:Obj)(s:ck):Obj:= {o with slots:=s}
def ry(L:List Obj)(k:Key)(s:ck):List Obj:=eQ L k.oid.toNat (gY (aL L k.oid.toNat free) s)
def dL(L:List Obj)(k:Key)(i:Int)(v:Key):List Obj:=if bY L k i v=0 then ry L k ((aL L k.oid.toNat free).slots.put i.toNat (aI L v))else L
def gu(L:List Obj)(k:Key):List Obj:=if bq L k 2 true=0 then ry L k ib else L
def dr(L:List Obj)(t f:Key):Int:=if bq L t 2 true=0 then bq L f 2 false else bq L t 2 true
def gG(L:List Obj)(t f:Key)(g:Int):ck:=(List.range g.toNat).foldl (fun s (j:Nat)=>s.put j (e9 L f (j:Int))) (aL L t.oid.toNat free).slots
def fL(L:List Obj)(t f:Key):List Obj:=if dr L t f=0 then ry L t (gG L t f 16)else L
def aO(L:List Obj):Prop:=fc L=true
def mz(g:Int):Prop:=0<=g/\g<=16
def kA:Arg Key:=EX rK V.key
def iA:Arg Int:=EX (rI .i64) (V.it .i64)
def bA:Arg Bool:=EX toBool V.bo
def oA:Arg Obj:=EX rO V.ob
def sA:Arg (Option (List Obj)):=Vt tS eS
def vP(o:Option (List Obj)):List Obj:=match o with
 |none=> []
 |some L=>L
def nB:lb (Obj×Option (List Obj)×Key×Unit):=bJ oA (bJ sA (bJ kA jP))
def Zc:Ct:=FN (bJ (agA nB) (bJ iA jP)) (fun x=>some (pd x.1.2.2.1 x.2.1)) fun x=> .key (jV (vP x.1.2.1) x.1.1 x.1.2.2.1 x.2.1)
def aaI:Ct:=FN (bJ sA (bJ kA (bJ iA jP))) (fun _=>none) fun x=> .tp [.key (bf (vP x.1) x.2.1 x.2.2.1),.it .i64 (dB (vP x.1) x.2.1 x.2.2.1)]
theorem Gl{r m g:Int}:0<=uw r m g/\uw r m g<=7:=by
 unfold uw;repeat' split
 all_goals omega
theorem OB{r:Int}(h0:0<=r)(h1:r<=7):bu .or .i64 r 3=bM r 3:=by
 have:r=0\/r=1\/r=2\/r=3\/r=4\/r=5\/r=6\/r=7:=by omega
 rcases this with rfl|rfl|rfl|rfl|rfl|rfl|rfl|rfl<;>decide
theorem EV{r:Int}(h0:0<=r)(h1:r<=1):bu .or .i64 r 1=1:=by
 have:r=0\/r=1:=by omega
 rcases this with rfl|rfl<;>decide
theorem ga{k:Key}(h:aR k=true):0<=k.rights/\k.rights<=dg k.kind:=by
 simp only[aR,af,ah]at h;omega
theorem nQ:aR void=true:=by decide
theorem gx(L:List Obj)(k:Key):aR (aI L k)=true:=by
 unfold aI;split
 ·exact nQ
 ·rename_i h;simp only[Bool.or_eq_true,not_or,Bool.not_eq_true,Bool.not_eq_false']at h;exact h.1.2
theorem oS(L:List Obj)(k:Key):ea (aI L k)=gH (aI L k):=by unfold ea;rw[gx,ar rfl]
theorem acB{r:Int}(h0:0<=r)(h1:r<=7):decide (bu .and .i64 r 2=0)= !decide ((r.tdiv 2).tmod 2=1):=by
 have:r=0\/r=1\/r=2\/r=3\/r=4\/r=5\/r=6\/r=7:=by omega
 rcases this with rfl|rfl|rfl|rfl|rfl|rfl|rfl|rfl<;>decide
theorem TX{r:Int}(h0:0<=r)(h1:r<=7):decide (bu .and .i64 r 3=0)=decide (r.tmod 4=0):=by
 have:r=0\/r=1\/r=2\/r=3\/r=4\/r=5\/r=6\/r=7:=by omega
 rcases this with rfl|rfl|rfl|rfl|rfl|rfl|rfl|rfl<;>decide
theorem VY(n:Int):dg n<=7:=by unfold dg;split<;>(try split)<;>omega
theorem ie{k:Key}(h:aR k=true):0<=k.rights/\k.rights<=7:=by
 have:=ga h;have:=VY k.kind;omega
theorem eT{L:List Obj}{k:Key}(h:bk L k=true):aR k=true/\0<=k.oid/\k.oid<(L.length:Int)/\aG L k=aL L k.oid.toNat free/\(aL L k.oid.toNat free).kind=jo k:=by
 have h':=h;unfold bk at h;simp only[af,ah]at h;obtain⟨⟨h1,h2⟩,h3⟩:=h;have hb:=jr.1 h2;have hn:0<=cx k:=(AH h').1;simp only[cW,af,Bool.or_eq_true,ah]at h3;refine⟨h3.1,hb.1,hb.2,by unfold aG;rw[h',ar rfl],?_⟩
 rcases h3.2 with h|h
 ·omega
 ·exact h.1.1
theorem Kt{L:List Obj}{o:Obj}{k:Key}{i:Int}(hq:pd k i):(0<=i/\i< ↑16)/\
  ((!decide (bu BinOp.and IntKind.i64 k.rights 2=0))=true->ea (aI L (o.slots.at i.toNat))=jV L o k i)/\
    ((!decide (bu BinOp.and IntKind.i64 k.rights 2=0))=false->aI L (o.slots.at i.toNat)=jV L o k i):=by
 obtain⟨h0,h1,h2⟩:=hq;have hr:=ie h2;rw[acB hr.1 hr.2,oS];unfold jV du;refine⟨⟨h0,by omega⟩,fun h=>?_,fun h=>?_⟩
 ·rw[ar (by simpa using h)]
 ·rw[aq (by simpa using h)]
theorem jv{L:List Obj}{k:Key}{d:Int}{c:Bool}(h:bq L k d c=0):bk L k=true/\k.kind=d/\(c=true->k.rights.tmod 4=0):=by
 unfold bq at h;split at h
 ·omega
 ·split at h
  ·omega
  ·rename_i h2;simp only[Bool.or_eq_true,Bool.not_eq_true',decide_eq_false_iff_not,not_or,Bool.not_eq_false,Decidable.not_not]at h2;split at h
   ·omega
   ·rename_i h3;refine⟨h2.1,h2.2,fun hc=>?_⟩
    simpa[hc]using h3
theorem nX:lU kA:=sH iF (fun _=>rfl) fun v x h=>ack h
theorem XF:lU oA:=sH BG (fun _=>rfl) fun v x h=>by cases v<;>simp[rO]at h;rfl
theorem Ql:lU bA:=sH N3 (fun _=>rfl) fun v x h=>by cases v<;>simp[toBool]at h<;>rfl
theorem fx:lU iA:=sH (iO .i64) (fun _=>rfl) fun v x h=>by cases v<;>simp[rI,toInt]at h<;>rfl
theorem tq:lU sA:=wj _ _
theorem acJ:ji nB:=ba XF (ba tq (ba nX dq))
def Bb(x:V)(M:List Obj)(v:V)(r:List aS):Prop:=
 match aN r 0 with
 | .store t e L=>if t==tS&&e==eS then sX x v r/\L=M else False
 |_=>False
theorem IW{x:V}{M:List Obj}{v:V}{r:List aS}(h:Bb x M v r):vZ x v r/\aN r 0= .store tS eS M:=by
 unfold Bb at h;split at h
 ·rename_i hr;split at h
  ·rename_i hc;simp only[af,ai]at hc;obtain⟨rfl,rfl⟩:=hc;obtain⟨h1,rfl⟩:=h;exact⟨eC h1,hr⟩
  ·exact h.elim
 ·exact h.elim
def LC{α:Type}(B:List V->Option α)(Q:List Obj->α->Prop)(F:List Obj->α->V)(M:List Obj->α->List Obj):lg:=fun args res K=>
 match args with
 |a::l=>match B l with
  |some x=>match a with
   | .nl v=>match v with
     | .pointer none=>K (F [] x) res
     |_=>False
   | .lp k off=>if off==0 then match aN res k with
     | .store t e L=>if t==tS&&e==eS then Q L x/\K (F L x) (bR res k (.store tS eS (M L x)))else False
     | .blk t c=>if t==tS&&isZ c then K (F [] x) res else False
     |_=>False
     else False
   |_=>False
  |none=>False
 |_=>False
def zst:V:= .ag [.nl (.slice none 0 0)]
theorem nZ[Fen]{P:Program}{f:Nat}{α:Type}{B:List V->Option α}{m:α->List V}{Q:List Obj->α->Prop}{F:List Obj->α->V}{M:List Obj->α->List Obj}(hB:∀l x,B l=some x->fw l (m x))(hid:∀x,mc (m x)=true)(hF:∀L x,kR (F L x)=true)
  (h0:∀x,aM P f (lX::m x) [] (sX (F [] x)) (fun _ _=>False)) (hz:∀x,aM P f (.lp 0 0::m x) [.ro (.blk tS zst)] (sX (F [] x)) (fun _ _=>False))
  (h1:∀L x,Q L x->(∀o∈L,o.wf)->L.length<=9223372036854775807->aM P f (.lp 0 0::m x) [.store tS eS L] (Bb (F L x) (M L x)) (fun _ _=>False)):l5 P f (LC B Q F M):=by
 intro args res K KP h;unfold LC at h;split at h
 case h_2=>exact h.elim
 split at h
 case h_2=>exact h.elim
 rename_i x hx;refine aM.args (fw.lq (hB _ _ hx)) ?_;split at h
 ·split at h
  ·exact aM.pure (by simp only[mc,kR,Bool.true_and];exact hid x) (hF _ _) ((h0 x).mono (fun _ _ h=>eC h) fun _ _ h=>h) h
  ·exact h.elim
 ·split at h
  ·rename_i hoff;have hoff:=ai.1 hoff;subst hoff;split at h
   ·rename_i hr;split at h
    ·rename_i hc;simp only[af,ai]at hc;obtain⟨rfl,rfl⟩:=hc;refine aM.CP hr (hid x) (hF _ _) (aM.fact (k:=0) rfl fun w1 w2=>(h1 _ x h.1 w1 w2).mono (fun v r hv=>IW hv |> fun⟨a,b⟩=>⟨fun J K=>a J K,b⟩) fun _ _ h=>h) h.2
    ·exact h.elim
   ·rename_i hr;split at h
    ·rename_i hc;simp only[af,ai]at hc;obtain⟨rfl,hz'⟩:=hc;have:=zV hz';subst this;exact aM.Q7 (r0:= .blk tS zst) (by unfold cC;rw[hr];rfl) (by simp) (fun κ=>rfl) (hid x) (hF _ _) ((hz x).mono (fun _ _ h=>eC h) fun _ _ h=>h) h
    ·exact h.elim
   ·exact h.elim
  ·exact h.elim
 ·exact h.elim
def rdK(l:List V):Option Key:=match l with
 | [a]=>rK a
 |_=>none
def U9(l:List V):Option (Key×Key):=match l with
 | [a,b]=>match rK a with
   |some k=>match rK b with
    |some k'=>some (k,k')
    |none=>none
   |none=>none
 |_=>none
def QV(l:List V):Option (Key×Int×Key):=match l with
 | [a,b,c]=>match rK a with
   |some k=>match rI .i64 b with
    |some i=>match rK c with
     |some k'=>some (k,i,k')
     |none=>none
    |none=>none
   |none=>none
 |_=>none
theorem Ra:∀l x,rdK l=some x->fw l [.key x]:=fun l x h=>by
 unfold rdK at h;split at h
 ·exact fw.rd iF h fw.nil
 ·simp at h
theorem JT:∀l x,U9 l=some x->fw l [.key x.1,.key x.2]:=fun l x h=>by
 unfold U9 at h;split at h
 ·split at h
  ·rename_i h1;split at h<;>simp only[aa,reduceCtorEq]at h
   rename_i h2;subst h;exact fw.rd iF h1 (fw.rd iF h2 fw.nil)
  ·simp at h
 ·simp at h
theorem RP:∀l x,QV l=some x->fw l [.key x.1,.it .i64 x.2.1,.key x.2.2]:=fun l x h=>by
 unfold QV at h;split at h
 ·split at h
  ·rename_i h1;split at h
   ·rename_i h2;split at h<;>simp only[aa,reduceCtorEq]at h
    rename_i h3;subst h;exact fw.rd iF h1 (fw.rd (iO .i64) h2 (fw.rd iF h3 fw.nil))
   ·simp at h
  ·simp at h
 ·simp at h
def tK:Nat:=38
def Db(g:Int):Nat:=(16-g).toNat
def ZZ:lg:=LC QV (fun L _=>aO L) (fun L x=> .tp [.key (fa L x.1 x.2.1 x.2.2),.it .i64 (bY L x.1 x.2.1 x.2.2)]) fun L x=>dL L x.1 x.2.1 x.2.2
def X8:lg:=LC rdK (fun L _=>aO L) (fun L x=> .it .i64 (bq L x 2 true)) fun L x=>gu L x
def YQ:lg:=LC U9 (fun L _=>aO L) (fun L x=> .it .i64 (dr L x.1 x.2)) fun L x=>fL L x.1 x.2
theorem Pn{L:List Obj}{k:Key}{d:Int}{c:Bool}(h:(!decide (0<aJ L))=true):bq L k d c=1:=by
 unfold bq;unfold aJ at h;rw[ar (by simp at h;omega)]
theorem L3{L:List Obj}{k:Key}{d:Int}{c:Bool}(h:(!decide (0<aJ L))=false)(h2:(!(bk L k&&decide (k.kind=d)))=true):bq L k d c=190:=by
 unfold bq;unfold aJ at h;rw[aq (by simp at h;omega),ar (by simpa using h2)]
theorem nO{L:List Obj}{k:Key}{d:Int}(h2:(!(bk L k&&decide (k.kind=d)))=false):bk L k=true/\k.kind=d:=by simpa using h2
theorem aaa{L:List Obj}{k:Key}{d:Int}(h:(!decide (0<aJ L))=false)(h2:(!(bk L k&&decide (k.kind=d)))=false)(h3:(!decide (bu BinOp.and IntKind.i64 k.rights 3=0))=true):bq L k d true=191:=by
 have hr:=ie (eT (nO h2).1).1;rw[TX hr.1 hr.2]at h3;unfold bq;unfold aJ at h;rw[aq (by simp at h;omega),aq (by simpa using h2),ar (by simpa using h3)]
theorem Lq{L:List Obj}{k:Key}{d:Int}(h:(!decide (0<aJ L))=false)(h2:(!(bk L k&&decide (k.kind=d)))=false)(h3:(!decide (bu BinOp.and IntKind.i64 k.rights 3=0))=false):bq L k d true=0:=by
 have hr:=ie (eT (nO h2).1).1;rw[TX hr.1 hr.2]at h3;unfold bq;unfold aJ at h;rw[aq (by simp at h;omega),aq (by simpa using h2),aq (by simpa using h3)]
theorem Kb{L:List Obj}{k:Key}{d:Int}(h:(!decide (0<aJ L))=false)(h2:(!(bk L k&&decide (k.kind=d)))=false):bq L k d false=0:=by
 unfold bq;unfold aJ at h;rw[aq (by simp at h;omega),aq (by simpa using h2),aq (by simp)]
def dG(n:Int)(k:Key):Prop:=aR k=true/\cx k<n
theorem OG{n:Int}{k:Key}:iS 1 n k=true↔dG n k:=by simp[iS,dG]
theorem Nr(r:Int):0<=bM r 3/\bM r 3<=7:=Gl
theorem Nx{n:Int}(hn:0<=n){k:Key}(h:dG n k):dG n (gH k):=by
 obtain⟨h1,h2⟩:=h;have hv:dG n void:=⟨nQ,by have:=nh.2;omega⟩
 unfold gH;split
 ·rename_i e;have hw:=Nr k.rights
  have h1':aR (cU k (bM k.rights 3))=true:=by
   simp only[aR,cU,e,af,ah]at h1⊢;have:dg 2=7:=rfl;grind
  refine⟨h1',?_⟩;unfold cx at h2⊢;rw[h1'];rw[h1]at h2;exact h2
 ·split
  ·rename_i e
   have h1':aR (cU k 1)=true:=by
    simp only[aR,cU,e,af,ah]at h1⊢;have:dg 3=1:=rfl;grind
   refine⟨h1',?_⟩;unfold cx at h2⊢;rw[h1'];rw[h1]at h2;exact h2
  ·split
   ·exact⟨h1,h2⟩
   ·exact hv
theorem pk{L:List Obj}(hL:0<L.length)(k:Key):dG (L.length:Int) (aI L k):=by
 have hv:dG (L.length:Int) void:=⟨nQ,by have:=nh.2;omega⟩
 unfold aI;split
 ·exact hv
 ·rename_i h;simp only[Bool.or_eq_true,not_or,Bool.not_eq_true,Bool.not_eq_false',Bool.and_eq_false_imp]at h;refine⟨h.1.2,?_⟩;rcases j5 k with⟨a,b,c⟩|⟨a,b⟩
  ·rw[b];exact(eT (h.2 a)).2.2.1
  ·omega
theorem WT{L:List Obj}(hL:0<L.length)(k:Key)(i:Int):dG (L.length:Int) (e9 L k i):=by
 unfold e9 jV;split
 ·exact Nx (by omega) (pk hL _)
 ·exact pk hL _
theorem Az{o:Obj}{n:Int}{s:ck}(h:bS o n=true)(hk:o.kind=1)(hs:∀i,i<16->dG n (s.at i)):bS (gY o s) n=true:=by
 rw[dK]at h⊢;simp only[gY];obtain⟨a1,a2,a3,a4,a5,a6,a7,a8,a9,a10,a11⟩:=h;exact⟨a1,a2,a3,a4,a5,a6,a7,a8,a9,fun i hi=>by rw[hk];exact OG.2 (hs i hi),fun i hi=> .inl (.inl hk)⟩
theorem CK{L:List Obj}{k:Key}(h:bk L k=true)(h2:k.kind=2):(aL L k.oid.toNat free).kind=1:=by
 rw[(eT h).2.2.2.2];unfold jo;rw[aq (by have:=(AH h).1;omega),aq (by omega)]
theorem Ag{L:List Obj}{k:Key}(hL:aO L)(h:bk L k=true)(h2:k.kind=2):∀i,i<16->dG (L.length:Int) ((aL L k.oid.toNat free).slots.at i):=fun i hi=>by
 obtain⟨_,b2,b3,_⟩:=eT h;have:=(gq.1 hL).2.2 k.oid.toNat (by omega)
 have:=(dK.1 this).2.2.2.2.2.2.2.2.2.1 i hi;rw[CK h h2]at this;exact OG.1 this
theorem pJ{L:List Obj}{k:Key}{s:ck}(hL:aO L)(h:bk L k=true)(h2:k.kind=2)(hs:∀i,i<16->dG (L.length:Int) (s.at i)):cV L k.oid (gY (aG L k) s)=ry L k s/\aO (ry L k s):=by
 obtain⟨b1,b2,b3,b4,_⟩:=eT h;have hr:=gq.1 hL;have ho:=Az (hr.2.2 k.oid.toNat (by omega)) (CK h h2) hs
 refine⟨?_,?_⟩
 ·rw[b4];exact(vM (jr.2 ⟨b2,b3⟩) (rY ho).symm).2
 ·refine gq.2 ?_;unfold ry;have hl:(eQ L k.oid.toNat (gY (aL L k.oid.toNat free) s)).length=L.length:=by simp[eQ]
  rw[hl];refine⟨hr.1,hr.2.1,fun i hi=>?_⟩
  by_cases e:i=k.oid.toNat
  ·subst e;rw[show aL (eQ L k.oid.toNat (gY (aL L k.oid.toNat free) s)) k.oid.toNat free=gY (aL L k.oid.toNat free) s by simp[aL,eQ,an,hi]]
   exact ho
  ·rw[show aL (eQ L k.oid.toNat (gY (aL L k.oid.toNat free) s)) i free=aL L i free by simp[aL,eQ,an,List.getElem?_set,Ne.symm e]]
   exact hr.2.2 i hi
theorem Fq{L:List Obj}{k:Key}{i:Int}{v:Key}(hL:aO L)(h:bk L k=true)(h2:k.kind=2)(h0:0<=i)(h1:i<16):∀j,j<16->dG (L.length:Int) (((aL L k.oid.toNat free).slots.put i.toNat (aI L v)).at j):=fun j hj=>by
 rw[ck.gg _ _ _ _ (by omega)]
 split
 ·exact pk (gq.1 hL).1 v
 ·exact Ag hL h h2 j hj
theorem Jv{n:Int}(hn:0<=n):∀j,j<16->dG n (ib.at j):=fun j hj=>by
 rw[I5.1 rfl j hj];exact⟨nQ,by have:=nh.2;omega⟩
theorem vq(L:List Obj)(v:Key):(decide (bO v=0)&&(!bc v||decide (cz v<aJ L)))=cS L v:=by
 unfold cS bO cz aJ;rcases j5 v with⟨a,b,c⟩|⟨a,b⟩
 ·rw[a,b];cases aR v<;>simp
 ·rw[a,b];have:(-1:Int)<(aK L:Int):=by omega
  cases aR v<;>simp[this]
theorem wc{L:List Obj}{t f:Key}{g:Int}(h0:0<=g):gG L t f (g+1)=(gG L t f g).put g.toNat (e9 L f g):=by
 unfold gG;rw[show(g+1).toNat=g.toNat+1 by omega,List.range_succ,List.foldl_append]
 simp only[List.foldl_cons,List.foldl_nil];rw[show((g.toNat:Nat):Int)=g by omega]
theorem QJ{L:List Obj}{t f:Key}(h:aG L t=aL L t.oid.toNat free):aG L t=gY (aG L t) (gG L t f 0):=by
 unfold gG gY;simp[h]
theorem PY{L:List Obj}{t f:Key}{g:Int}(h0:0<=g)(h:aG L f=aL L f.oid.toNat free)(o:Obj)(s:ck):({kind:=(gY o (gG L t f g)).kind,count:=(gY o (gG L t f g)).count,calls:=(gY o (gG L t f g)).calls,slots:=(gY o (gG L t f g)).slots.put g.toNat (jV L (aG L f) f g),bytes:=(gY o (gG L t f g)).bytes}:Obj)=gY o (gG L t f (g+1)):=by
 rw[wc h0];unfold e9;rw[h];rfl
theorem y9{L:List Obj}{t f:Key}(hL:aO L)(h:bk L t=true)(h2:t.kind=2):∀n:Nat,n<=16->∀j,j<16->dG (L.length:Int) ((gG L t f n).at j)
 |0,_,j,hj=>by
  unfold gG;exact Ag hL h h2 j hj
 |n+1,hn,j,hj=>by
  rw[show((n+1:Nat):Int)=(n:Int)+1 by omega,wc (by omega),ck.gg _ _ _ _ (by omega)]
  split
  ·exact WT (gq.1 hL).1 _ _
  ·exact y9 hL h h2 n (by omega) j hj
structure Acx where
 kind:Int
 slot:Int
 key:Key
 other:Key
def oX(l:List Obj):Bool:=decide ((aK l:Int)<=20)&&fc l
def ZE:lg:=QB (bJ liA jP) (fun _=>True) (fun x=>oX x.1) (fun _=>lX) (fun _ n=> .lp n 0) (fun x=> .store tS eS x.1)
def AJ(L:List Obj)(a:Acx):Bool:=
 if a.kind=1 then false else if a.kind=2 then decide (bY L a.key a.slot a.other=0)else if a.kind=3 then decide (bq L a.key 2 true=0)else if a.kind=4 then decide (dr L a.key a.other=0)else false
def Ky(L:List Obj)(a:Acx):List Obj:=
 if a.kind=1 then L else if a.kind=2 then dL L a.key a.slot a.other else if a.kind=3 then gu L a.key else if a.kind=4 then fL L a.key a.other else L
theorem re(k:Key):A4 k k=true:=by simp[A4]
def Acx.wf(x:Acx):Prop:=cB .i64 x.kind/\cB .i64 x.slot/\x.key.wf/\x.other.wf
theorem sr(L:List Obj):Nk L L=true:=by unfold Nk;simp
theorem GQ{L:List Obj}{k:Key}{i:Int}{v:Key}(h:bY L k i v=0):bq L k 2 true=0/\0<=i/\i<16:=by
 unfold bY lh at h;split at h
 ·rename_i h1;split at h
  ·rename_i h2;simp at h2;exact⟨h1,h2.1,h2.2⟩
  ·omega
 ·rename_i h1;exact absurd h h1
theorem zg{L:List Obj}{a:Acx}(hL:aO L)(h:AJ L a=true):aO (Ky L a):=by
 unfold AJ at h;unfold Ky;split at h
 ·simp at h
 ·rename_i h1;rw[aq h1];split at h
  ·rename_i h2;rw[ar h2];have h:=ak h;obtain⟨e1,e2,e3⟩:=GQ h;obtain⟨a1,a2,_⟩:=jv e1;unfold dL;rw[ar h];exact(pJ hL a1 a2 (Fq hL a1 a2 e2 e3)).2
  ·rename_i h2;rw[aq h2];split at h
   ·rename_i h3;rw[ar h3];have h:=ak h;obtain⟨a1,a2,_⟩:=jv h;unfold gu;rw[ar h];exact(pJ hL a1 a2 (Jv (by omega))).2
   ·rename_i h3;rw[aq h3];split at h
    ·rename_i h4;rw[ar h4];have h:=ak h;have h':=h;unfold dr at h';split at h'
     ·rename_i h5;obtain⟨a1,a2,_⟩:=jv h5;unfold fL;rw[ar h];exact(pJ hL a1 a2 (y9 hL a1 a2 16 (by omega))).2
     ·rename_i h5;exact absurd h' h5
    ·simp at h
section
variable {L:List Obj} {k:Key} {s:ck} (h0:0<=k.oid) (h1:k.oid<(L.length:Int))
include h0 h1
end
theorem ij{L:List Obj}{j:Int}(h0:0<=j)(h1:j<(L.length:Int)):aQ L j=aL L j.toNat free:=by
 unfold aQ;rw[ar (jr.2 ⟨h0,h1⟩)]
theorem dE{L:List Obj}{i:Nat}{x:Obj}(hi:i<L.length)(j:Nat):aL (eQ L i x) j free=if j=i then x else aL L j free:=by
 by_cases e:j=i
 ·subst e;rw[ar rfl];simp[aL,eQ,an,hi]
 ·rw[aq e];simp[aL,eQ,an,List.getElem?_set,Ne.symm e]
theorem fN{L:List Obj}{i:Nat}{x:Obj}:(eQ L i x).length=L.length:=by simp[eQ]
theorem qm{κ:Nat->Option Nat}{x a:V}{l m:List V}(h1:fP κ x=some a)(h2:eY κ l=some m):eY κ (x::l)=some (a::m):=by
 simp only[eY];rw[h1];simp only;rw[h2]
def Mw{α:Type}(B:lb α)(l:List V):Option α:=match B.rd [] l with
 |some p=>match p.1 with
  | []=>some p.2
  |_=>none
 |none=>none
theorem pc{α:Type}{B:lb α}(hB:ji B)(hid:∀a,mc (B.cn a 0)=true):∀l x,Mw B l=some x->fw l (B.cn x 0):=fun l x h=>by
 unfold Mw at h;split at h
 case h_2=>simp at h
 rename_i p hp;obtain⟨pls,a⟩:=p;split at h
 case h_2=>simp at h
 rename_i h1;simp only at h1;subst h1;simp only[aa]at h;subst h;obtain⟨_,_,_,b4⟩:=hB _ _ _ _ hp;obtain⟨c1,c2⟩:=b4 [] [];intro J K hk;have e1:=(c1 J K hk).1;have e2:=c2 K hk;have e3:fq (fun _=>False) (B.cn a 0):=ql _ (hid a) e2
 refine⟨?_,ql _ (hid a) e2⟩;rw[<-e1];exact fS (N:=fun _=>False) (fun _ h=>h.elim) _ e3
def hSr{α:Type}(B:List V->Option α)(R:α->Prop)(Q:List Obj->α->Prop)(F:List Obj->α->V)(M:List Obj->α->List Obj):lg:=fun args res K=>
 match args with
 |a::l=>match B l with
  |some x=>R x/\match a with
   | .nl v=>match v with
     | .pointer none=>K (F [] x) res
     |_=>False
   | .lp k off=>if off==0 then match aN res k with
     | .store t e L=>if t==tS&&e==eS then Q L x/\K (F L x) (bR res k (.store tS eS (M L x)))else False
     | .blk t c=>if t==tS&&isZ c then K (F [] x) res else False
     |_=>False
     else False
   |_=>False
  |none=>False
 |_=>False
theorem D7[Fen]{P:Program}{f:Nat}{α:Type}{B:List V->Option α}{m:α->List V}{R:α->Prop}{Q:List Obj->α->Prop}{F:List Obj->α->V}{M:List Obj->α->List Obj}(hB:∀l x,B l=some x->fw l (m x))(hid:∀x,mc (m x)=true)(hF:∀L x,kR (F L x)=true)
  (h0:∀x,R x->aM P f (lX::m x) [] (sX (F [] x)) (fun _ _=>False)) (hz:∀x,R x->aM P f (.lp 0 0::m x) [.ro (.blk tS zst)] (sX (F [] x)) (fun _ _=>False))
  (h1:∀L x,Q L x->aM P f (.lp 0 0::m x) [.store tS eS L] (Bb (F L x) (M L x)) (fun _ _=>False)):l5 P f (hSr B R Q F M):=by
 intro args res K KP h;unfold hSr at h;split at h
 case h_2=>exact h.elim
 split at h
 case h_2=>exact h.elim
 rename_i x hx;obtain⟨hR,h⟩:=h;refine aM.args (fw.lq (hB _ _ hx)) ?_;split at h
 ·split at h
  ·exact aM.pure (by simp only[mc,kR,Bool.true_and];exact hid x) (hF _ _) ((h0 x hR).mono (fun _ _ h=>eC h) fun _ _ h=>h) h
  ·exact h.elim
 ·split at h
  ·rename_i hoff;have hoff:=ai.1 hoff;subst hoff;split at h
   ·rename_i hr;split at h
    ·rename_i hc;simp only[af,ai]at hc;obtain⟨rfl,rfl⟩:=hc;exact aM.CP hr (hid x) (hF _ _) ((h1 _ x h.1).mono (fun v r hv=>IW hv |> fun⟨a,b⟩=>⟨fun J K=>a J K,b⟩) fun _ _ h=>h) h.2
    ·exact h.elim
   ·rename_i hr;split at h
    ·rename_i hc;simp only[af,ai]at hc;obtain⟨rfl,hz'⟩:=hc;have:=zV hz';subst this;exact aM.Q7 (r0:= .blk tS zst) (by unfold cC;rw[hr];rfl) (by simp) (fun κ=>rfl) (hid x) (hF _ _) ((hz x hR).mono (fun _ _ h=>eC h) fun _ _ h=>h) h
    ·exact h.elim
   ·exact h.elim
  ·exact h.elim
 ·exact h.elim
def dR(n:Int):Key:=⟨1,0,0,0,0,n⟩
theorem dA{L:List Obj}(h:aO L)(j:Nat)(hj:j<L.length):bS (aL L j free) (L.length:Int)=true:=(gq.1 h).2.2 j hj
theorem fJ{L:List Obj}(h:aO L):1<=L.length/\L.length<=64:=⟨(gq.1 h).1,(gq.1 h).2.1⟩
theorem Pv{L M:List Obj}(h:aO L)(hl:M.length=L.length)(hm:∀j,j<L.length->bS (aL M j free) (L.length:Int)=true):aO M:=by
 obtain⟨a,b⟩:=fJ h;unfold aO;rw[gq,hl];exact⟨a,b,hm⟩
theorem lk{L:List Obj}{i:Nat}{x:Obj}(h:aO L)(hx:bS x (L.length:Int)=true):aO (eQ L i x):=by
 by_cases hi:i<L.length
 ·refine Pv h fN fun j hj=>?_
  rw[dE hi];split
  ·exact hx
  ·exact dA h j hj
 ·rw[show eQ L i x=L from List.set_eq_of_length_le (by omega)];exact h
theorem mn{L:List Obj}{i:Int}{x:Obj}(h0:0<=i)(h1:i<(L.length:Int))(hx:bS x (L.length:Int)=true):cV L i x=eQ L i.toNat x/\fC L i x=0:=by
 have e:bH L i=0:=jr.2 ⟨h0,h1⟩;have e2:c8 x (aK L:Int)=0:=by unfold c8;exact ar hx
 exact⟨(vM e e2).2,(vM e e2).1⟩
theorem UN{n:Int}{s:ck}{k:Key}{j:Nat}(hj:j<16)(h:∀i,i<16->dG n (s.at i))(hk:dG n k)(i:Nat)(hi:i<16):dG n ((s.put j k).at i):=by
 rw[ck.gg _ _ _ _ hj];split
 ·exact hk
 ·exact h i hi
theorem sY{n:Int}(hn:0<=n)(x:Int):dG n (dR x):=by
 refine⟨by simp[dR,aR,dg,jc,cG,fD,eH],?_⟩
 unfold cx;rw[show cG (dR x).kind=false by simp[dR,cG]]
 simp;omega
theorem sw{o:Obj}{n:Int}(h:bS o n=true)(hk:o.kind=1)(i:Nat)(hi:i<16):dG n (o.slots.at i):=by
 obtain⟨a1,a2,a3,a4,a5,a6,a7,a8,a9,a10,a11⟩:=dK.1 h;have:=a10 i hi;rw[hk]at this;exact OG.1 this
theorem uP(o:Obj):GZ o o=true:=by simp[GZ]
end Go.Sx
