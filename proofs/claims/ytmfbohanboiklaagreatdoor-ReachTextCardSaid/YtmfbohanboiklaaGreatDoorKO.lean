import Derived.Test.YtmfbohanboiklaaGreatDoorSxF
set_option linter.unusedSimpArgs false
set_option linter.unusedVariables false
namespace Go.Sx
def cQ(h:Bool)(n m:Int):Bool:=if h then decide (0<=n)&&decide (n<=m)else decide (n=0)
def bH(n:Int):Bool:=decide (2<=n)&&decide (n<=7)
def dL(n:Int):Bool:=decide (n=2)||decide (n=3)
def bz(n:Int):Bool:=decide (n=7)
def bg(n:Int):Bool:=decide (n=1)||decide (n=6)
def fg(n:Int):Int:=if n=2 then 7 else if n=3 then 1 else 0
def aP(k:Key):Bool:=
 decide (0<=k.kind)&&decide (k.kind<=10)&&decide (0<=k.rights)&&decide (k.rights<=fg k.kind)&&(bg k.kind||decide (k.value=0))&&
 cQ (bH k.kind) k.oid 63&&cQ (bH k.kind) k.count 4294967295&&cQ (bz k.kind) k.call 4294967295
def aU(k:Key):Int:=if aP k then 0 else 2
def jN(k:Key):Int:=if aP k&&bH k.kind then k.oid else -1
def zc(k:Key):Int:=if jN k<0 then 0 else if k.kind=3 then 2 else 1
def cR(k:Key)(o:Obj):Bool:=
 aP k&&(decide (jN k<0)||(decide (o.kind=zc k)&&decide (o.count=k.count)&&(!decide (k.kind=7)||decide (o.calls=k.call))))
def jz(k:Key):Bool:=decide (0<=k.kind)&&decide (k.kind<=10)
def gG(n:Nat):ByteArray:=
 match n with
 |0=> "void".toUTF8
 |1=> "number".toUTF8
 |2=> "node".toUTF8
 |3=> "page".toUTF8
 |4=> "bank".toUTF8
 |5=> "proc".toUTF8
 |6=> "start".toUTF8
 |7=> "resume".toUTF8
 |8=> "discrim".toUTF8
 |9=> "clock".toUTF8
 |10=> "check".toUTF8
 |_=>ByteArray.empty
def kd(s:ByteArray)(a b c d:Bool)(m w:Int):V:= .ag [.st s,.cb a,.cb b,.cb c,.cb d,.ci .i64 m,.ci .i64 w]
def uW:V:= .ag [kd (gG 0) false false false false 0 0,kd (gG 1) false false false true 0 0,kd (gG 2) true true false false 7 1,kd (gG 3) true true false false 1 2,
 kd (gG 4) true false false false 0 1,kd (gG 5) true false false false 0 1,kd (gG 6) true false false true 0 1,kd (gG 7) true false true false 0 1,
 kd (gG 8) false false false false 0 0,kd (gG 9) false false false false 0 0,kd (gG 10) false false false false 0 0]
def aL(k:Key):ByteArray:=if jz k then gG k.kind.toNat else ByteArray.empty
def mc(n:Int):Int:=if n=3 then 2 else if 2<=n/\n<=7 then 1 else 0
def Ei:Ct:=LO toBool (rI .i64) (rI .i64) fun h n m=> .bo (cQ h n m)
def JP:Ct:=Is rK fun k=> .tp [.ag [.st (aL k),.bo (bH k.kind),.bo (dL k.kind),.bo (bz k.kind),.bo (bg k.kind),.it .i64 (fg k.kind),.it .i64 (mc k.kind)],.bo (aP k)]
def JU:Ct:=Is (rI .i64) fun n=> .tp [.bo (bH n),.bo (dL n),.bo (bz n),.bo (bg n)]
def GB:Ct:=Is rK fun k=> .it .i64 (aU k)
def bW(k:Key):Bool:=aP k&&bH k.kind
def eu(k:Key):Int:=if bW k then k.oid else 0
def Ca:Ct:=Is rK fun k=> .tp [.it .i64 (eu k),.bo (bW k)]
def DQ:Ct:=HA rK rO fun k o=> .bo (cR k o)
theorem wrap_i64{n:Int}(h:bU .i64 n):IntKind.wrap .i64 n=n:=by
 have:=h;simp only[bU]at this;unfold IntKind.wrap;simp[IntKind.bits,IntKind.signed];omega
theorem mZ{r:Int}(j:Nat)(hj:j<63)(h0:0<=r)(h1:r<=9223372036854775807):cG .andNot .i64 r ((2^j-1:Nat):Int)=0↔r<2^j:=by
 obtain⟨n,rfl⟩:=Int.eq_ofNat_of_zero_le h0;have hn:n<2^64:=by omega
 have hbit:∀i,(BitVec.ofInt 64 (n:Int)).getLsbD i=n.testBit i:=by
  intro i;rw[BitVec.ofInt_natCast,BitVec.getLsbD_ofNat];by_cases hi:i<64
  ·simp[hi]
  ·rw[Nat.testBit_lt_two_pow (Nat.lt_of_lt_of_le hn (Nat.pow_le_pow_right (by omega) (by omega)))];simp
 have hx:(BitVec.ofInt 64 (n:Int) &&& ~~~BitVec.ofInt 64 ((2^j-1:Nat):Int)).toNat=0↔n<2^j:=by
  constructor
  ·intro h;refine Nat.lt_pow_two_of_testBit _ fun i hi=>?_
   rcases Nat.lt_or_ge i 64 with h64|h64
   ·have h2:(BitVec.ofInt 64 (n:Int) &&& ~~~BitVec.ofInt 64 ((2^j-1:Nat):Int)).getLsbD i=false:=by
     rw[BitVec.getLsbD,h];simp
    rw[BitVec.getLsbD_and,hbit,BitVec.getLsbD_not,BitVec.ofInt_natCast,BitVec.getLsbD_ofNat,Nat.testBit_two_pow_sub_one]at h2;simp only[h64,decide_true,Bool.true_and,show¬i<j by omega,decide_false,Bool.not_false,Bool.and_true]at h2
    exact h2
   ·exact Nat.testBit_lt_two_pow (Nat.lt_of_lt_of_le hn (Nat.pow_le_pow_right (by omega) h64))
  ·intro h
   have:BitVec.ofInt 64 (n:Int) &&& ~~~BitVec.ofInt 64 ((2^j-1:Nat):Int)=0#64:=by
    refine BitVec.eq_of_getLsbD_eq fun i hi=>?_
    rw[BitVec.getLsbD_and,hbit,BitVec.getLsbD_not,BitVec.ofInt_natCast,BitVec.getLsbD_ofNat,Nat.testBit_two_pow_sub_one];by_cases hij:i<j
    ·simp[hij,hi]
    ·rw[Nat.testBit_lt_two_pow (Nat.lt_of_lt_of_le h (Nat.pow_le_pow_right (by omega) (by omega)))];simp
   rw[this];rfl
 have hle:(BitVec.ofInt 64 (n:Int) &&& ~~~BitVec.ofInt 64 ((2^j-1:Nat):Int)).toNat<=n:=by
  rw[BitVec.toNat_and];refine Nat.le_trans Nat.and_le_left ?_;rw[BitVec.ofInt_natCast,BitVec.toNat_ofNat];exact Nat.mod_le _ _
 have hp:((2^j:Nat):Int)=(2:Int)^j:=by simp
 change IntKind.wrap .i64 (((BitVec.ofInt 64 (n:Int) &&& ~~~BitVec.ofInt 64 ((2^j-1:Nat):Int)).toNat:Nat):Int)=0↔_
 generalize (BitVec.ofInt 64 (n:Int) &&& ~~~BitVec.ofInt 64 ((2^j-1:Nat):Int)).toNat=x at *
 rw[wrap_i64 (by simp only[bU];omega),<-hp]
 omega
theorem Gq{r:Int}(h0:0<=r)(h1:r<=9223372036854775807):cG .andNot .i64 r 7=0↔r<=7:=by
 have:=mZ 3 (by omega) h0 h1
 rw[show((2^3-1:Nat):Int)=7 from rfl,show(2:Int)^3=8 from rfl]at this;rw[this];omega
theorem ET{r:Int}(h0:0<=r)(h1:r<=9223372036854775807):cG .andNot .i64 r 1=0↔r<=1:=by
 have:=mZ 1 (by omega) h0 h1
 rw[show((2^1-1:Nat):Int)=1 from rfl,show(2:Int)^1=2 from rfl]at this;rw[this];omega
theorem Fb{r:Int}(h0:0<=r)(h1:r<=9223372036854775807):cG .andNot .i64 r 0=0↔r<=0:=by
 have:=mZ 0 (by omega) h0 h1
 rw[show((2^0-1:Nat):Int)=0 from rfl,show(2:Int)^0=1 from rfl]at this;rw[this];omega
theorem D8{r m:Int}{b:Bool}(h:0<=r->(b=decide (r<=m))):(decide (0<=r)&&b)=(decide (0<=r)&&decide (r<=m)):=by
 by_cases h0:0<=r
 ·rw[h h0]
 ·simp[h0]
end Go.Sx
namespace Go.Proofs.YtmfbohanboiklaaGreatDoor
open Go.Sx
set_option maxRecDepth 100000
theorem Bk(h:Bool)(n m:Int):
 (h&&decide (0<=n)&&decide (n<=m)|| !h&&decide (n=0))=cQ h n m:=by
 unfold cQ;cases h<;>simp
theorem Bg[Fen]:cI Tryz.prog 44 Ei:=
 HF BM (gd .i64) (gd .i64) (fun _ _ _=>rfl) fun h n m _ _ _=>bG (inl:=cq) (ann:=cH) bf (Bk h n m) (by kernel_rfl)
theorem BE[Fen]:cI Tryz.prog 43 (Jh uW):=
 H8 rfl (bG (inl:=cq) (ann:=cH) bf (G:=uW=uW) rfl (by kernel_rfl):aJ _ _ _ _ (fun v _=>v=uW) (fun _ _=>False))
theorem HV(k:Key)(hk:k.wf):
 ((decide (k.kind<0)||decide (10<k.kind))=true->
   {data:= {toList:= []}}=aL k/\
    false=bH k.kind/\
     false=dL k.kind/\
      false=bz k.kind/\false=bg k.kind/\0=fg k.kind/\0=mc k.kind/\false=aP k)/\
   ((decide (k.kind<0)||decide (10<k.kind))=false->
     (0<=k.kind/\k.kind< ↑11)/\
      aX [gG 0,gG 1,gG 2,gG 3,gG 4,gG 5,gG 6,gG 7,gG 8,gG 9,gG 10] k.kind.toNat
          {data:= {toList:= []}}=
        aL k/\
       aX [false,false,true,true,true,true,true,true,false,false,false] k.kind.toNat false=
         bH k.kind/\
        aX [false,false,true,true,false,false,false,false,false,false,false] k.kind.toNat false=
          dL k.kind/\
         aX [false,false,false,false,false,false,false,true,false,false,false] k.kind.toNat false=
           bz k.kind/\
          aX [false,true,false,false,false,false,true,false,false,false,false] k.kind.toNat false=
            bg k.kind/\
           aX [0,0,7,1,0,0,0,0,0,0,0] k.kind.toNat 0=fg k.kind/\
            aX [0,0,1,2,1,1,1,1,0,0,0] k.kind.toNat 0=mc k.kind/\
             (cQ
                (aX [false,false,true,true,true,true,true,true,false,false,false]
                 k.kind.toNat false)
                k.oid 63&&
                cQ
                 (aX [false,false,true,true,true,true,true,true,false,false,false]
                  k.kind.toNat false)
                 k.count 4294967295&&
                cQ
                 (aX [false,false,false,false,false,false,false,true,false,false,false]
                  k.kind.toNat false)
                 k.call 4294967295&&
                decide (0<=k.rights)&&
                decide
                 (cG BinOp.andNot IntKind.i64 k.rights
                   (aX [0,0,7,1,0,0,0,0,0,0,0] k.kind.toNat 0)=
                  0)&&
               (aX [false,true,false,false,false,false,true,false,false,false,false] k.kind.toNat
                 false||
                decide (k.value=0)))=
              aP k):=by
 obtain⟨kind,oid,count,call,rights,value⟩:=k;have hr:rights<=9223372036854775807:=hk.2.2.2.2.1.2;simp only;have he:(ByteArray.empty:ByteArray)= {data:= {toList:= []}}:=rfl;refine⟨fun h=>?_,fun h=>?_⟩
 ·simp only[Bool.or_eq_true,ai]at h;refine⟨?_,?_,?_,?_,?_,?_,?_,?_⟩<;>simp only[aL,jz,bH,dL,bz,bg,fg,mc,aP]<;>grind
 ·simp only[Bool.or_eq_false_iff,decide_eq_false_iff_not]at h;have hb:∀m,(0<=rights->(decide (cG .andNot .i64 rights m=0))=decide (rights<=m))->(decide (0<=rights)&&decide (cG .andNot .i64 rights m=0))=(decide (0<=rights)&&decide (rights<=m)):=fun m hm=>D8 hm
  have h7:=hb 7 fun h0=>by rw[decide_eq_decide];exact Gq h0 hr
  have h1:=hb 1 fun h0=>by rw[decide_eq_decide];exact ET h0 hr
  have h0:=hb 0 fun h0=>by rw[decide_eq_decide];exact Fb h0 hr
  have hc:kind=0\/kind=1\/kind=2\/kind=3\/kind=4\/kind=5\/kind=6\/kind=7\/kind=8\/kind=9\/kind=10:=by omega
  rcases hc with rfl|rfl|rfl|rfl|rfl|rfl|rfl|rfl|rfl|rfl|rfl<;>
   refine⟨⟨by decide,by decide⟩,rfl,rfl,rfl,rfl,rfl,rfl,rfl,?_⟩<;>
   simp only[aX,aP,bH,bg,bz,fg,Int.reduceToNat,List.getD_cons_zero,List.getD_cons_succ,Bool.and_assoc]<;>
   simp+decide [cQ]<;>grind
theorem sb[Fen]:cI Tryz.prog 28 JP:=
 oW ju (fun _=>rfl) fun k hk=>bG (inl:=cq) (ann:=cH) (aS Bg (aS BE bf)) (HV k hk) (by kernel_rfl)
theorem F8(k:Key)(hk:k.wf):
 ((!aP k)=true->2=aU k)/\((!aP k)=false->0=aU k):=by
 unfold aU;cases aP k<;>simp
theorem qx[Fen]:cI Tryz.prog 55 GB:=
 oW ju (fun _=>rfl) fun k hk=>bG (inl:=cq) (ann:=cH) (aS sb bf) (F8 k hk) (by kernel_rfl)
theorem Bp(k:Key)(hk:k.wf):
 ((!aP k|| !bH k.kind)=true->0=eu k/\false=bW k)/\
   ((!aP k|| !bH k.kind)=false->k.oid=eu k/\true=bW k):=by
 unfold eu bW;cases aP k<;>cases bH k.kind<;>simp
theorem jj[Fen]:cI Tryz.prog 54 Ca:=
 oW ju (fun _=>rfl) fun k hk=>bG (inl:=cq) (ann:=cH) (aS sb bf) (Bp k hk) (by kernel_rfl)
theorem yf(k:Key)(o:Sx.Obj)(hk:k.wf):
 ((!aP k)=true->false=cR k o)/\
   ((!aP k)=false->
     ((!bH k.kind)=true->true=cR k o)/\
       ((!bH k.kind)=false->
         (decide (o.kind=mc k.kind)&&decide (o.count=k.count)&&
           (!bz k.kind||decide (o.calls=k.call)))=
          cR k o)):=by
 cases hok:aP k
 ·simp[cR,hok]
 ·have h0:bH k.kind=true->0<=k.oid:=fun h=>by
   simp only[aP,cQ,h,if_true,ah,ai]at hok;omega
  simp only[cR,zc,jN,mc,bz,hok,Bool.true_and];simp only[bH]at *;grind
theorem sA[Fen]:cI Tryz.prog 84 DQ:=
 pg ju zQ (fun _ _=>rfl) fun k o hk _=>bG (inl:=cq) (ann:=cH) (aS sb bf) (yf k o hk) (by kernel_rfl)
theorem IK(n:Int):
 (decide (2<=n)&&decide (n<=7))=bH n/\
  (decide (n=2)||decide (n=3))=dL n/\
   decide (n=7)=bz n/\(decide (n=1)||decide (n=6))=bg n:=by
 exact⟨rfl,rfl,rfl,rfl⟩
theorem Dg[Fen]:cI Tryz.prog 17 JU:=
 oW (gd .i64) (fun _=>rfl) fun n _=>bG (inl:=cq) (ann:=cH) bf (IK n) (by kernel_rfl)
theorem Gj(k:Key)(hk:k.wf):
 (dL k.kind=true->
   (decide (k.kind=3)=true->
     ((decide (k.kind<0)||decide (10<k.kind)||decide (k.rights<0)||decide (1<k.rights)||
        !bg k.kind&& !decide (k.value=0))=
        true->
       2=aU k)/\
       ((decide (k.kind<0)||decide (10<k.kind)||decide (k.rights<0)||decide (1<k.rights)||
          !bg k.kind&& !decide (k.value=0))=
         false->
         ((bH k.kind&&
            (decide (k.oid<0)||decide (64<=k.oid)||decide (k.count<0)||
             decide (4294967295<k.count))||
               !bH k.kind&&(!decide (k.oid=0)|| !decide (k.count=0)))=
            true->
           2=aU k)/\
           ((bH k.kind&&
                (decide (k.oid<0)||decide (64<=k.oid)||decide (k.count<0)||
                 decide (4294967295<k.count))||
              !bH k.kind&&(!decide (k.oid=0)|| !decide (k.count=0)))=
             false->
             ((bz k.kind&&(decide (k.call<0)||decide (4294967295<k.call))||
                  !bz k.kind&& !decide (k.call=0))=
                true->
               2=aU k)/\
               ((bz k.kind&&(decide (k.call<0)||decide (4294967295<k.call))||
                  !bz k.kind&& !decide (k.call=0))=
                 false->
                 0=aU k))))/\
    (decide (k.kind=3)=false->
     ((decide (k.kind<0)||decide (10<k.kind)||decide (k.rights<0)||decide (7<k.rights)||
        !bg k.kind&& !decide (k.value=0))=
        true->
       2=aU k)/\
       ((decide (k.kind<0)||decide (10<k.kind)||decide (k.rights<0)||decide (7<k.rights)||
          !bg k.kind&& !decide (k.value=0))=
         false->
         ((bH k.kind&&
            (decide (k.oid<0)||decide (64<=k.oid)||decide (k.count<0)||
             decide (4294967295<k.count))||
               !bH k.kind&&(!decide (k.oid=0)|| !decide (k.count=0)))=
            true->
           2=aU k)/\
           ((bH k.kind&&
                (decide (k.oid<0)||decide (64<=k.oid)||decide (k.count<0)||
                 decide (4294967295<k.count))||
              !bH k.kind&&(!decide (k.oid=0)|| !decide (k.count=0)))=
             false->
             ((bz k.kind&&(decide (k.call<0)||decide (4294967295<k.call))||
                  !bz k.kind&& !decide (k.call=0))=
                true->
               2=aU k)/\
               ((bz k.kind&&(decide (k.call<0)||decide (4294967295<k.call))||
                  !bz k.kind&& !decide (k.call=0))=
                 false->
                 0=aU k)))))/\
  (dL k.kind=false->
   (decide (k.kind=3)=true->
     ((decide (k.kind<0)||decide (10<k.kind)||decide (k.rights<0)||decide (1<k.rights)||
        !bg k.kind&& !decide (k.value=0))=
        true->
       2=aU k)/\
       ((decide (k.kind<0)||decide (10<k.kind)||decide (k.rights<0)||decide (1<k.rights)||
          !bg k.kind&& !decide (k.value=0))=
         false->
         ((bH k.kind&&
            (decide (k.oid<0)||decide (64<=k.oid)||decide (k.count<0)||
             decide (4294967295<k.count))||
               !bH k.kind&&(!decide (k.oid=0)|| !decide (k.count=0)))=
            true->
           2=aU k)/\
           ((bH k.kind&&
                (decide (k.oid<0)||decide (64<=k.oid)||decide (k.count<0)||
                 decide (4294967295<k.count))||
              !bH k.kind&&(!decide (k.oid=0)|| !decide (k.count=0)))=
             false->
             ((bz k.kind&&(decide (k.call<0)||decide (4294967295<k.call))||
                  !bz k.kind&& !decide (k.call=0))=
                true->
               2=aU k)/\
               ((bz k.kind&&(decide (k.call<0)||decide (4294967295<k.call))||
                  !bz k.kind&& !decide (k.call=0))=
                 false->
                 0=aU k))))/\
    (decide (k.kind=3)=false->
     ((decide (k.kind<0)||decide (10<k.kind)||decide (k.rights<0)||decide (0<k.rights)||
        !bg k.kind&& !decide (k.value=0))=
        true->
       2=aU k)/\
       ((decide (k.kind<0)||decide (10<k.kind)||decide (k.rights<0)||decide (0<k.rights)||
          !bg k.kind&& !decide (k.value=0))=
         false->
         ((bH k.kind&&
            (decide (k.oid<0)||decide (64<=k.oid)||decide (k.count<0)||
             decide (4294967295<k.count))||
               !bH k.kind&&(!decide (k.oid=0)|| !decide (k.count=0)))=
            true->
           2=aU k)/\
           ((bH k.kind&&
                (decide (k.oid<0)||decide (64<=k.oid)||decide (k.count<0)||
                 decide (4294967295<k.count))||
              !bH k.kind&&(!decide (k.oid=0)|| !decide (k.count=0)))=
             false->
             ((bz k.kind&&(decide (k.call<0)||decide (4294967295<k.call))||
                  !bz k.kind&& !decide (k.call=0))=
                true->
               2=aU k)/\
               ((bz k.kind&&(decide (k.call<0)||decide (4294967295<k.call))||
                  !bz k.kind&& !decide (k.call=0))=
                 false->
                 0=aU k))))):=by
 simp only[aU,aP,cQ,fg,dL];rcases Bool.eq_false_or_eq_true (bH k.kind)with hA|hA<;>rcases Bool.eq_false_or_eq_true (bz k.kind)with hB|hB<;>rcases Bool.eq_false_or_eq_true (bg k.kind)with hC|hC<;>simp only[hA,hB,hC,Bool.true_and,Bool.false_and,Bool.not_true,Bool.not_false,Bool.or_false,Bool.false_or,Bool.true_or,if_true,Bool.false_eq_true,if_false,Bool.and_true]<;>grind
theorem zp[Fen]:cI Tryz.prog 7 GB:=
 oW ju (fun _=>rfl) fun k hk=>bG (inl:=cq) (ann:=cH) (aS Dg bf) (Gj k hk) (by kernel_rfl)
end Go.Proofs.YtmfbohanboiklaaGreatDoor
namespace Go.Sx
def kM(kind n:Int)(k:Key):Bool:=aP k&&decide (jN k<n)&&(decide (kind=1)||decide (k=void))
def eD(o:Obj)(n:Int):Bool:=
 decide (1<=n)&&decide (n<=64)&&decide (0<=o.kind)&&decide (o.kind<=3)&&decide (0<=o.count)&&decide (o.count<=4294967295)&&decide (0<=o.calls)&&decide (o.calls<=4294967295)&&
 (decide (o.kind=1)||decide (o.calls=0))&&(List.range 16).all (fun i=>kM o.kind n (o.slots.at i))&&
 (List.range 64).all (fun i=>decide (o.kind=1)||decide (o.kind=2)||decide (o.bytes.at i=0))
def bR(o:Obj)(n:Int):Int:=if eD o n then 0 else 2
def fx(o:Obj)(b:Bool):Bool:=decide (o.slots=iH)&&(b||decide (o.bytes=jD))&&decide (o.calls=0)
def jq(o:Obj)(n:Int)(i:Int):Bool:=(List.range i.toNat).all fun j=>aP (o.slots.at j)&&decide (jN (o.slots.at j)<n)
def uY(i:Int):Prop:=0<=i/\i<=16
def Hv:Ct:=HA rO toBool fun o b=> .bo (fx o b)
def I7:Ct:=HA rO (rI .i64) fun o n=> .it .i64 (bR o n)
theorem lK{o:Obj}{n:Int}:eD o n=true↔1<=n/\n<=64/\0<=o.kind/\o.kind<=3/\0<=o.count/\o.count<=4294967295/\0<=o.calls/\o.calls<=4294967295/\
  (o.kind=1\/o.calls=0)/\(∀i,i<16->kM o.kind n (o.slots.at i)=true)/\∀i,i<64->(o.kind=1\/o.kind=2)\/o.bytes.at i=0:=by
 simp only[eD,ah,ai,Bool.or_eq_true,List.all_eq_true,List.mem_range,and_assoc]
theorem qg{o:Obj}{n:Int}(h:¬eD o n=true):2=bR o n:=by simp[bR,h]
theorem xk{o:Obj}{n:Int}(h:eD o n=true):0=bR o n:=by simp[bR,h]
theorem Fe{s:cM}:s=iH↔ ∀i,i<16->s.at i=void:=by
 constructor
 ·rintro rfl i _;exact r6 i
 ·intro h;refine Vector.ext fun i hi=>?_
  have:=h i hi;unfold cM.at at this;simp only[iH,Vector.getElem_replicate];rw[<-this];simp[hi]
theorem Gv{s:Bytes}:s=jD↔ ∀i,i<64->s.at i=0:=by
 constructor
 ·rintro rfl i hi
  unfold Bytes.at jD;simp[hi]
 ·intro h;refine Vector.ext fun i hi=>?_
  have:=h i hi;unfold Bytes.at at this;simp only[jD,Vector.getElem_replicate];rw[<-this];simp[hi]
theorem zw:aP void=true/\jN void= -1:=by decide
theorem pq{kind n:Int}(hk:kind≠1)(hn:1<=n)(k:Key):kM kind n k=true↔k=void:=by
 unfold kM;simp only[ah,ai,Bool.or_eq_true];constructor
 ·rintro⟨_,h|h⟩
  ·exact absurd h hk
  ·exact h
 ·rintro rfl
  exact⟨⟨zw.1,by rw[zw.2];omega⟩,.inr rfl⟩
theorem BW{o:Obj}{b:Bool}:fx o b=true↔(∀i,i<16->o.slots.at i=void)/\(b=true\/∀i,i<64->o.bytes.at i=0)/\o.calls=0:=by
 simp only[fx,ah,ai,Bool.or_eq_true,Fe,Gv,and_assoc]
theorem yx{o:Obj}{n:Int}(h1:1<=n)(h2:n<=64)(h3:0<=o.count)(h4:o.count<=4294967295)(h5:0<=o.calls)(h6:o.calls<=4294967295){b:Bool}(hk:0<=o.kind/\o.kind<=3/\o.kind≠1)(hb:b=decide (o.kind=2)):
  eD o n=fx o b:=by
 rw[Bool.eq_iff_iff,lK,BW];subst hb;constructor
 ·rintro⟨_,_,_,_,_,_,_,_,h,hs,hz⟩
  refine⟨fun i hi=>(pq hk.2.2 h1 _).1 (hs i hi),?_,h.resolve_left hk.2.2⟩
  by_cases h2:o.kind=2
  ·exact .inl (by simp[h2])
  ·exact .inr fun i hi=>(hz i hi).resolve_left fun h=>h.elim hk.2.2 h2
 ·rintro⟨hs,hz,hc⟩
  refine⟨h1,h2,hk.1,hk.2.1,h3,h4,h5,h6,.inr hc,fun i hi=>(pq hk.2.2 h1 _).2 (hs i hi),fun i hi=>?_⟩
  rcases hz with h|h
  ·exact .inl (.inr (by simpa using h))
  ·exact .inr (h i hi)
theorem xU{o:Obj}{n:Int}(h1:1<=n)(h2:n<=64)(h3:0<=o.count)(h4:o.count<=4294967295)(h5:0<=o.calls)(h6:o.calls<=4294967295)(hk:o.kind=1):eD o n=jq o n 16:=by
 rw[Bool.eq_iff_iff,lK];simp only[jq,List.all_eq_true,List.mem_range,hk,kM,ah,decide_true,Bool.true_or,and_true];constructor
 ·rintro⟨_,_,_,_,_,_,_,_,_,hs,_⟩
  exact fun i hi=>hs i hi
 ·intro hs;exact⟨h1,h2,by omega,by omega,h3,h4,h5,h6,.inl trivial,fun i hi=>hs i hi,fun i hi=> .inl (.inl trivial)⟩
theorem DR{o:Obj}{n g:Int}:(jq o n g&&decide (aU (o.slots.at g.toNat)=0)&&(!bW (o.slots.at g.toNat)||decide (eu (o.slots.at g.toNat)<n)))=
  (jq o n g&&(aP (o.slots.at g.toNat)&&(!bW (o.slots.at g.toNat)||decide ((o.slots.at g.toNat).oid<n)))):=by
 unfold aU eu;cases aP (o.slots.at g.toNat)<;>cases bW (o.slots.at g.toNat)<;>simp
theorem DW{o:Obj}{n g:Int}(h0:0<=g)(hn:1<=n):(jq o n g&&decide (aU (o.slots.at g.toNat)=0)&&(!bW (o.slots.at g.toNat)||decide (eu (o.slots.at g.toNat)<n)))=jq o n (g+1):=by
 rw[DR];unfold jq;rw[show(g+1).toNat=g.toNat+1 by omega,List.range_succ,List.all_append]
 simp only[List.all_cons,List.all_nil,Bool.and_true];congr 1
 unfold jN bW;cases aP (o.slots.at g.toNat)
 ·rfl
 ·cases bH (o.slots.at g.toNat).kind
  ·simp;omega
  ·simp
end Go.Sx
namespace Go.Proofs.YtmfbohanboiklaaGreatDoor
open Go.Sx
set_option maxRecDepth 100000
theorem FB(o:Sx.Obj)(b:Bool):
 (wi o.slots iH&&(b||wO o.bytes jD)&&decide (o.calls=0))=fx o b:=by
 unfold fx wi wO;rfl
theorem Ey[Fen]:cI Tryz.prog 53 Hv:=
 pg zQ BM (fun _ _=>rfl) fun o b _ _=>bG (inl:=cq) (ann:=cH) bf (FB o b) (by kernel_rfl)
theorem Gl(o:Sx.Obj)(n:Int):
 ((decide (n<1)||decide (64<n)||decide (o.count<0)||decide (4294967295<o.count)||
           decide (o.calls<0)||
    decide (4294967295<o.calls))=
    true->
   2=bR o n)/\
   ((decide (n<1)||decide (64<n)||decide (o.count<0)||decide (4294967295<o.count)||
      decide (o.calls<0)||
      decide (4294967295<o.calls))=
     false->
     (decide (o.kind=0)=true->
       ((!fx o false)=true->2=bR o n)/\((!fx o false)=false->0=bR o n))/\
      (decide (o.kind=0)=false->
       (decide (o.kind=3)=true->
         ((!fx o false)=true->2=bR o n)/\((!fx o false)=false->0=bR o n))/\
        (decide (o.kind=3)=false->
         (decide (o.kind=2)=true->
           ((!fx o true)=true->2=bR o n)/\((!fx o true)=false->0=bR o n))/\
          (decide (o.kind=2)=false->
           (decide (o.kind=1)=true->
             (∃g,uY g/\n=n/\true=jq o n g/\o.slots=o.slots/\0=g/\o=o)/\
              ∀(g:Int),
               uY g->
                (decide (g<16)=true->
                  (0<=g/\g< ↑16)/\
                   dI IntKind.i64 (g+1)/\
                    ∃g',
                     uY g'/\
                      (16-g').toNat<(16-g).toNat/\
                       n=n/\
                        (jq o n g&&decide (aU (o.slots.at g.toNat)=0)&&
                           (!bW (o.slots.at g.toNat)||
                            decide (eu (o.slots.at g.toNat)<n)))=
                          jq o n g'/\
                         o.slots=o.slots/\g+1=g'/\o=o)/\
                 (decide (g<16)=false->
                  ((!jq o n g)=true->2=bR o n)/\((!jq o n g)=false->0=bR o n)))/\
            (decide (o.kind=1)=false->2=bR o n))))):=by
 refine⟨fun h=>qg fun hh=>?_,fun h=>?_⟩
 ·have:=lK.1 hh;simp only[Bool.or_eq_true,ai]at h;omega
 ·simp only[Bool.or_eq_false_iff,decide_eq_false_iff_not]at h
  have hb:∀(b:Bool),(0<=o.kind/\o.kind<=3/\o.kind≠1)->b=decide (o.kind=2)->((!fx o b)=true->2=bR o n)/\((!fx o b)=false->0=bR o n):=fun b h1 h2=>by
   have he:=yx (o:=o) (n:=n) (b:=b) (by omega) (by omega) (by omega) (by omega) (by omega) (by omega) h1 h2
   exact⟨fun hn=>qg (by rw[he];simpa using hn),fun hy=>xk (by rw[he];simpa using hy)⟩
  refine⟨fun h0=>?_,fun h0=>⟨fun h3=>?_,fun h3=>⟨fun h2=>?_,fun h2=>⟨fun h1=>⟨⟨0,⟨by omega,by omega⟩,rfl,rfl,rfl,rfl,rfl⟩,fun g hg=>⟨fun hlt=>?_,fun hge=>?_⟩⟩,fun h1=>qg fun hh=>?_⟩⟩⟩⟩
  ·have h0:=an h0;exact hb false (by omega) (by simp[h0])
  ·have h3:=an h3;exact hb false (by omega) (by simp[h3])
  ·have h2:=an h2;exact hb true (by omega) (by simp[h2])
  ·obtain⟨g0,g1⟩:=hg;have hlt:=an hlt;refine⟨⟨g0,by omega⟩,by simp only[dI,bU];omega,g+1,⟨by omega,by omega⟩,by omega,rfl,DW g0 (by omega),rfl,rfl,rfl⟩
  ·obtain⟨g0,g1⟩:=hg;have hge:¬g<16:=ak hge;have h1:=an h1;have e:g=16:=by omega
   subst e;have he:=xU (o:=o) (n:=n) (by omega) (by omega) (by omega) (by omega) (by omega) (by omega) h1
   exact⟨fun hn=>qg (by rw[he];simpa using hn),fun hy=>xk (by rw[he];simpa using hy)⟩
  ·have:=lK.1 hh;have h0:¬o.kind=0:=ak h0;have h1:¬o.kind=1:=ak h1;have h2:¬o.kind=2:=ak h2;have h3:¬o.kind=3:=ak h3;omega
theorem u6[Fen]:cI Tryz.prog 36 I7:=
 pg zQ (gd .i64) (fun _ _=>rfl) fun o n _ _=>bG (inl:=cq) (ann:=(qJ [(36,12,Jw [1,2,51] (fun g=> [(52,.it .i64 g),(5,.bo (jq o n g))]) uY 16)])) (aS Ey (aS qx (aS jj bf))) (Gl o n) (by kernel_rfl)
end Go.Proofs.YtmfbohanboiklaaGreatDoor
