import Derived.Test.YtmfbohanboiklaaSxF
set_option linter.unusedSimpArgs false
set_option linter.unusedVariables false
namespace Go.Sx
def cy (h:Bool) (n m:Int):Bool:=if h then decide (0<=n)&&decide (n<=m)else decide (n=0)
def bB (n:Int):Bool:=decide (2<=n)&&decide (n<=7)
def np (n:Int):Bool:=decide (n=2)||decide (n=3)
def cF (n:Int):Bool:=decide (n=7)
def eM (n:Int):Bool:=decide (n=1)||decide (n=6)
def fK (n:Int):Int:=if n=2 then 7 else if n=3 then 1 else 0
def aA (k:Key):Bool:=
 decide (0<=k.kind)&&decide (k.kind<=10)&&decide (0<=k.rights)&&decide (k.rights<=fK k.kind)&&(eM k.kind||decide (k.value=0))&&
 cy (bB k.kind) k.oid 63&&cy (bB k.kind) k.count 4294967295&&cy (cF k.kind) k.call 4294967295
def aW (k:Key):Int:=if aA k then 0 else 2
def aC (k:Key):Int:=if aA k&&bB k.kind then k.oid else -1
def im (k:Key):Int:=if aC k<0 then 0 else if k.kind=3 then 2 else 1
def bN (k:Key) (o:Obj):Bool:=
 aA k&&(decide (aC k<0)||(decide (o.kind=im k)&&decide (o.count=k.count)&&(!decide (k.kind=7)||decide (o.calls=k.call))))
def Hh (k:Key):Bool:=decide (0<=k.kind)&&decide (k.kind<=10)
def gR (n:Nat):ByteArray:=
 match n with
 |0=> "void".toUTF8
 |1=> "number".toUTF8
 |2=> "node".toUTF8
 |3=> "page".toUTF8
 |4=> "bank".toUTF8
 |5=> "proc".toUTF8
 |6=> "start".toUTF8
 |7=> "resume".toUTF8
 |8=> "discrim".toUTF8
 |9=> "clock".toUTF8
 |10=> "check".toUTF8
 |_=>ByteArray.empty
def kd (s:ByteArray) (a b c d:Bool) (m w:Int):V:= .ag [.st s,.cb a,.cb b,.cb c,.cb d,.ci .i64 m,.ci .i64 w]
def uX:V:= .ag [kd (gR 0) false false false false 0 0,kd (gR 1) false false false true 0 0,kd (gR 2) true true false false 7 1,kd (gR 3) true true false false 1 2,
 kd (gR 4) true false false false 0 1,kd (gR 5) true false false false 0 1,kd (gR 6) true false false true 0 1,kd (gR 7) true false true false 0 1,
 kd (gR 8) false false false false 0 0,kd (gR 9) false false false false 0 0,kd (gR 10) false false false false 0 0]
def qh (k:Key):ByteArray:=if Hh k then gR k.kind.toNat else ByteArray.empty
def lO (n:Int):Int:=if n=3 then 2 else if 2<=n/\n<=7 then 1 else 0
def En:Ct:=LY toBool (rI .i64) (rI .i64) fun h n m=> .bo (cy h n m)
def Kt:Ct:=Ez rK fun k=> .tp [.ag [.st (qh k),.bo (bB k.kind),.bo (np k.kind),.bo (cF k.kind),.bo (eM k.kind),.it .i64 (fK k.kind),.it .i64 (lO k.kind)],.bo (aA k)]
def JA:Ct:=Ez (rI .i64) fun n=> .tp [.bo (bB n),.bo (np n),.bo (cF n),.bo (eM n)]
def Hi:Ct:=Ez rK fun k=> .it .i64 (aW k)
def aS (k:Key):Bool:=aA k&&bB k.kind
def dQ (k:Key):Int:=if aS k then k.oid else 0
def DE:Ct:=Ez rK fun k=> .tp [.it .i64 (dQ k),.bo (aS k)]
def DK:Ct:=Ez rK fun k=> .it .i64 (aC k)
def Es:Ct:=Ez rK fun k=> .it .i64 (im k)
def vY:Ct:=Jn rK rO fun k o=> .bo (bN k o)
theorem wrap_i64 {n:Int} (h:bJ .i64 n):IntKind.wrap .i64 n=n:=by
 have:=h;simp only[bJ]at this;unfold IntKind.wrap;simp[IntKind.bits,IntKind.signed];omega
theorem mN {r:Int} (j:Nat) (hj:j<63) (h0:0<=r) (h1:r<=9223372036854775807):cS .andNot .i64 r ((2^j-1:Nat):Int)=0↔r<2^j:=by
 obtain⟨n,rfl⟩:=Int.eq_ofNat_of_zero_le h0;have hn:n<2^64:=by omega
 have hbit:∀i,(BitVec.ofInt 64 (n:Int)).getLsbD i=n.testBit i:=by
  intro i;rw[BitVec.ofInt_natCast,BitVec.getLsbD_ofNat];by_cases hi:i<64
  ·simp[hi]
  ·rw[Nat.testBit_lt_two_pow (Nat.lt_of_lt_of_le hn (Nat.pow_le_pow_right (by omega) (by omega)))];simp
 have hx:(BitVec.ofInt 64 (n:Int) &&& ~~~BitVec.ofInt 64 ((2^j-1:Nat):Int)).toNat=0↔n<2^j:=by
  constructor
  ·intro h;refine Nat.lt_pow_two_of_testBit _ fun i hi=>?_
   rcases Nat.lt_or_ge i 64 with h64|h64
   ·have h2:(BitVec.ofInt 64 (n:Int) &&& ~~~BitVec.ofInt 64 ((2^j-1:Nat):Int)).getLsbD i=false:=by
     rw[BitVec.getLsbD,h];simp
    rw[BitVec.getLsbD_and,hbit,BitVec.getLsbD_not,BitVec.ofInt_natCast,BitVec.getLsbD_ofNat,Nat.testBit_two_pow_sub_one]at h2;simp only[h64,decide_true,Bool.true_and,show¬i<j by omega,decide_false,Bool.not_false,Bool.and_true]at h2
    exact h2
   ·exact Nat.testBit_lt_two_pow (Nat.lt_of_lt_of_le hn (Nat.pow_le_pow_right (by omega) h64))
  ·intro h
   have:BitVec.ofInt 64 (n:Int) &&& ~~~BitVec.ofInt 64 ((2^j-1:Nat):Int)=0#64:=by
    refine BitVec.eq_of_getLsbD_eq fun i hi=>?_
    rw[BitVec.getLsbD_and,hbit,BitVec.getLsbD_not,BitVec.ofInt_natCast,BitVec.getLsbD_ofNat,Nat.testBit_two_pow_sub_one];by_cases hij:i<j
    ·simp[hij,hi]
    ·rw[Nat.testBit_lt_two_pow (Nat.lt_of_lt_of_le h (Nat.pow_le_pow_right (by omega) (by omega)))];simp
   rw[this];rfl
 have hle:(BitVec.ofInt 64 (n:Int) &&& ~~~BitVec.ofInt 64 ((2^j-1:Nat):Int)).toNat<=n:=by
  rw[BitVec.toNat_and];refine Nat.le_trans Nat.and_le_left ?_;rw[BitVec.ofInt_natCast,BitVec.toNat_ofNat];exact Nat.mod_le _ _
 have hp:((2^j:Nat):Int)=(2:Int)^j:=by simp
 change IntKind.wrap .i64 (((BitVec.ofInt 64 (n:Int) &&& ~~~BitVec.ofInt 64 ((2^j-1:Nat):Int)).toNat:Nat):Int)=0↔_
 generalize (BitVec.ofInt 64 (n:Int) &&& ~~~BitVec.ofInt 64 ((2^j-1:Nat):Int)).toNat=x at *
 rw[wrap_i64 (by simp only[bJ];omega),<-hp]
 omega
theorem E8 {r:Int} (h0:0<=r) (h1:r<=9223372036854775807):cS .andNot .i64 r 7=0↔r<=7:=by
 have:=mN 3 (by omega) h0 h1
 rw[show((2^3-1:Nat):Int)=7 from rfl,show(2:Int)^3=8 from rfl]at this;rw[this];omega
theorem ET {r:Int} (h0:0<=r) (h1:r<=9223372036854775807):cS .andNot .i64 r 1=0↔r<=1:=by
 have:=mN 1 (by omega) h0 h1
 rw[show((2^1-1:Nat):Int)=1 from rfl,show(2:Int)^1=2 from rfl]at this;rw[this];omega
theorem Fc {r:Int} (h0:0<=r) (h1:r<=9223372036854775807):cS .andNot .i64 r 0=0↔r<=0:=by
 have:=mN 0 (by omega) h0 h1
 rw[show((2^0-1:Nat):Int)=0 from rfl,show(2:Int)^0=1 from rfl]at this;rw[this];omega
theorem Dn {r m:Int} {b:Bool} (h:0<=r->(b=decide (r<=m))):(decide (0<=r)&&b)=(decide (0<=r)&&decide (r<=m)):=by
 by_cases h0:0<=r
 ·rw[h h0]
 ·simp[h0]
end Go.Sx
namespace Go.Proofs.Ytmfbohanboiklaa
open Go.Sx
set_option maxRecDepth 100000
theorem Aq (h:Bool) (n m:Int):
 (h&&decide (0<=n)&&decide (n<=m)|| !h&&decide (n=0))=cy h n m:=by
 unfold cy;cases h<;>simp
theorem Bg:bW Try.prog 73 En:=
 HR CL (fy .i64) (fy .i64) (fun _ _ _=>rfl) fun h n m _ _ _=>aK (inl:=bx) (ann:=bV) az (Aq h n m) (by kernel_rfl)
theorem DP:bW Try.prog 72 (Ju uX):=
 HK rfl (aK (inl:=bx) (ann:=bV) az (G:=uX=uX) rfl (by kernel_rfl):ai _ _ _ _ (fun v _=>v=uX) (fun _ _=>False))
theorem HB (k:Key) (hk:k.wf):
 ((decide (k.kind<0)||decide (10<k.kind))=true->
   {data:= {toList:= []}}=qh k/\
    false=bB k.kind/\
     false=np k.kind/\
      false=cF k.kind/\false=eM k.kind/\0=fK k.kind/\0=lO k.kind/\false=aA k)/\
   ((decide (k.kind<0)||decide (10<k.kind))=false->
     (0<=k.kind/\k.kind< ↑11)/\
      ay [gR 0,gR 1,gR 2,gR 3,gR 4,gR 5,gR 6,gR 7,gR 8,gR 9,gR 10] k.kind.toNat
          {data:= {toList:= []}}=
        qh k/\
       ay [false,false,true,true,true,true,true,true,false,false,false] k.kind.toNat false=
         bB k.kind/\
        ay [false,false,true,true,false,false,false,false,false,false,false] k.kind.toNat false=
          np k.kind/\
         ay [false,false,false,false,false,false,false,true,false,false,false] k.kind.toNat false=
           cF k.kind/\
          ay [false,true,false,false,false,false,true,false,false,false,false] k.kind.toNat false=
            eM k.kind/\
           ay [0,0,7,1,0,0,0,0,0,0,0] k.kind.toNat 0=fK k.kind/\
            ay [0,0,1,2,1,1,1,1,0,0,0] k.kind.toNat 0=lO k.kind/\
             (cy
                (ay [false,false,true,true,true,true,true,true,false,false,false]
                 k.kind.toNat false)
                k.oid 63&&
                cy
                 (ay [false,false,true,true,true,true,true,true,false,false,false]
                  k.kind.toNat false)
                 k.count 4294967295&&
                cy
                 (ay [false,false,false,false,false,false,false,true,false,false,false]
                  k.kind.toNat false)
                 k.call 4294967295&&
                decide (0<=k.rights)&&
                decide
                 (cS BinOp.andNot IntKind.i64 k.rights
                   (ay [0,0,7,1,0,0,0,0,0,0,0] k.kind.toNat 0)=
                  0)&&
               (ay [false,true,false,false,false,false,true,false,false,false,false] k.kind.toNat
                 false||
                decide (k.value=0)))=
              aA k):=by
 obtain⟨kind,oid,count,call,rights,value⟩:=k;have hr:rights<=9223372036854775807:=hk.2.2.2.2.1.2;simp only;have he:(ByteArray.empty:ByteArray)= {data:= {toList:= []}}:=rfl;refine⟨fun h=>?_,fun h=>?_⟩
 ·simp only[Bool.or_eq_true,Mv]at h;refine⟨?_,?_,?_,?_,?_,?_,?_,?_⟩<;>simp only[qh,Hh,bB,np,cF,eM,fK,lO,aA]<;>grind
 ·simp only[Bool.or_eq_false_iff,decide_eq_false_iff_not]at h;have hb:∀m,(0<=rights->(decide (cS .andNot .i64 rights m=0))=decide (rights<=m))->(decide (0<=rights)&&decide (cS .andNot .i64 rights m=0))=(decide (0<=rights)&&decide (rights<=m)):=fun m hm=>Dn hm
  have h7:=hb 7 fun h0=>by rw[decide_eq_decide];exact E8 h0 hr
  have h1:=hb 1 fun h0=>by rw[decide_eq_decide];exact ET h0 hr
  have h0:=hb 0 fun h0=>by rw[decide_eq_decide];exact Fc h0 hr
  have hc:kind=0\/kind=1\/kind=2\/kind=3\/kind=4\/kind=5\/kind=6\/kind=7\/kind=8\/kind=9\/kind=10:=by omega
  rcases hc with rfl|rfl|rfl|rfl|rfl|rfl|rfl|rfl|rfl|rfl|rfl<;>
   refine⟨⟨by decide,by decide⟩,rfl,rfl,rfl,rfl,rfl,rfl,rfl,?_⟩<;>
   simp only[ay,aA,bB,eM,cF,fK,Int.reduceToNat,List.getD_cons_zero,List.getD_cons_succ,Bool.and_assoc]<;>
   simp+decide [cy]<;>grind
theorem yw:bW Try.prog 61 Kt:=
 jt hJ (fun _=>rfl) fun k hk=>aK (inl:=bx) (ann:=bV) (an Bg (an DP az)) (HB k hk) (by kernel_rfl)
theorem Fq (k:Key) (hk:k.wf):
 ((!aA k)=true->2=aW k)/\((!aA k)=false->0=aW k):=by
 unfold aW;cases aA k<;>simp
theorem qy:bW Try.prog 47 Hi:=
 jt hJ (fun _=>rfl) fun k hk=>aK (inl:=bx) (ann:=bV) (an yw az) (Fq k hk) (by kernel_rfl)
theorem Bp (k:Key) (hk:k.wf):
 ((!aA k|| !bB k.kind)=true->0=dQ k/\false=aS k)/\
   ((!aA k|| !bB k.kind)=false->k.oid=dQ k/\true=aS k):=by
 unfold dQ aS;cases aA k<;>cases bB k.kind<;>simp
theorem jm:bW Try.prog 40 DE:=
 jt hJ (fun _=>rfl) fun k hk=>aK (inl:=bx) (ann:=bV) (an yw az) (Bp k hk) (by kernel_rfl)
theorem yh (k:Key) (o:Sx.Obj) (hk:k.wf):
 ((!aA k)=true->false=bN k o)/\
   ((!aA k)=false->
     ((!bB k.kind)=true->true=bN k o)/\
       ((!bB k.kind)=false->
         (decide (o.kind=lO k.kind)&&decide (o.count=k.count)&&
           (!cF k.kind||decide (o.calls=k.call)))=
          bN k o)):=by
 cases hok:aA k
 ·simp[bN,hok]
 ·have h0:bB k.kind=true->0<=k.oid:=fun h=>by
   simp only[aA,cy,h,if_true,Mu,Mv]at hok;omega
  simp only[bN,im,aC,lO,cF,hok,Bool.true_and];simp only[bB]at *;grind
theorem qQ:bW Try.prog 86 vY:=
 pg hJ sY (fun _ _=>rfl) fun k o hk _=>aK (inl:=bx) (ann:=bV) (an yw az) (yh k o hk) (by kernel_rfl)
theorem IB (n:Int):
 (decide (2<=n)&&decide (n<=7))=bB n/\
  (decide (n=2)||decide (n=3))=np n/\
   decide (n=7)=cF n/\(decide (n=1)||decide (n=6))=eM n:=by
 exact⟨rfl,rfl,rfl,rfl⟩
theorem Cb:bW Try.prog 22 JA:=
 jt (fy .i64) (fun _=>rfl) fun n _=>aK (inl:=bx) (ann:=bV) az (IB n) (by kernel_rfl)
theorem Fk (k:Key) (hk:k.wf):
 (np k.kind=true->
   (decide (k.kind=3)=true->
     ((decide (k.kind<0)||decide (10<k.kind)||decide (k.rights<0)||decide (1<k.rights)||
        !eM k.kind&& !decide (k.value=0))=
        true->
       2=aW k)/\
       ((decide (k.kind<0)||decide (10<k.kind)||decide (k.rights<0)||decide (1<k.rights)||
          !eM k.kind&& !decide (k.value=0))=
         false->
         ((bB k.kind&&
            (decide (k.oid<0)||decide (64<=k.oid)||decide (k.count<0)||
             decide (4294967295<k.count))||
               !bB k.kind&&(!decide (k.oid=0)|| !decide (k.count=0)))=
            true->
           2=aW k)/\
           ((bB k.kind&&
                (decide (k.oid<0)||decide (64<=k.oid)||decide (k.count<0)||
                 decide (4294967295<k.count))||
              !bB k.kind&&(!decide (k.oid=0)|| !decide (k.count=0)))=
             false->
             ((cF k.kind&&(decide (k.call<0)||decide (4294967295<k.call))||
                  !cF k.kind&& !decide (k.call=0))=
                true->
               2=aW k)/\
               ((cF k.kind&&(decide (k.call<0)||decide (4294967295<k.call))||
                  !cF k.kind&& !decide (k.call=0))=
                 false->
                 0=aW k))))/\
    (decide (k.kind=3)=false->
     ((decide (k.kind<0)||decide (10<k.kind)||decide (k.rights<0)||decide (7<k.rights)||
        !eM k.kind&& !decide (k.value=0))=
        true->
       2=aW k)/\
       ((decide (k.kind<0)||decide (10<k.kind)||decide (k.rights<0)||decide (7<k.rights)||
          !eM k.kind&& !decide (k.value=0))=
         false->
         ((bB k.kind&&
            (decide (k.oid<0)||decide (64<=k.oid)||decide (k.count<0)||
             decide (4294967295<k.count))||
               !bB k.kind&&(!decide (k.oid=0)|| !decide (k.count=0)))=
            true->
           2=aW k)/\
           ((bB k.kind&&
                (decide (k.oid<0)||decide (64<=k.oid)||decide (k.count<0)||
                 decide (4294967295<k.count))||
              !bB k.kind&&(!decide (k.oid=0)|| !decide (k.count=0)))=
             false->
             ((cF k.kind&&(decide (k.call<0)||decide (4294967295<k.call))||
                  !cF k.kind&& !decide (k.call=0))=
                true->
               2=aW k)/\
               ((cF k.kind&&(decide (k.call<0)||decide (4294967295<k.call))||
                  !cF k.kind&& !decide (k.call=0))=
                 false->
                 0=aW k)))))/\
  (np k.kind=false->
   (decide (k.kind=3)=true->
     ((decide (k.kind<0)||decide (10<k.kind)||decide (k.rights<0)||decide (1<k.rights)||
        !eM k.kind&& !decide (k.value=0))=
        true->
       2=aW k)/\
       ((decide (k.kind<0)||decide (10<k.kind)||decide (k.rights<0)||decide (1<k.rights)||
          !eM k.kind&& !decide (k.value=0))=
         false->
         ((bB k.kind&&
            (decide (k.oid<0)||decide (64<=k.oid)||decide (k.count<0)||
             decide (4294967295<k.count))||
               !bB k.kind&&(!decide (k.oid=0)|| !decide (k.count=0)))=
            true->
           2=aW k)/\
           ((bB k.kind&&
                (decide (k.oid<0)||decide (64<=k.oid)||decide (k.count<0)||
                 decide (4294967295<k.count))||
              !bB k.kind&&(!decide (k.oid=0)|| !decide (k.count=0)))=
             false->
             ((cF k.kind&&(decide (k.call<0)||decide (4294967295<k.call))||
                  !cF k.kind&& !decide (k.call=0))=
                true->
               2=aW k)/\
               ((cF k.kind&&(decide (k.call<0)||decide (4294967295<k.call))||
                  !cF k.kind&& !decide (k.call=0))=
                 false->
                 0=aW k))))/\
    (decide (k.kind=3)=false->
     ((decide (k.kind<0)||decide (10<k.kind)||decide (k.rights<0)||decide (0<k.rights)||
        !eM k.kind&& !decide (k.value=0))=
        true->
       2=aW k)/\
       ((decide (k.kind<0)||decide (10<k.kind)||decide (k.rights<0)||decide (0<k.rights)||
          !eM k.kind&& !decide (k.value=0))=
         false->
         ((bB k.kind&&
            (decide (k.oid<0)||decide (64<=k.oid)||decide (k.count<0)||
             decide (4294967295<k.count))||
               !bB k.kind&&(!decide (k.oid=0)|| !decide (k.count=0)))=
            true->
           2=aW k)/\
           ((bB k.kind&&
                (decide (k.oid<0)||decide (64<=k.oid)||decide (k.count<0)||
                 decide (4294967295<k.count))||
              !bB k.kind&&(!decide (k.oid=0)|| !decide (k.count=0)))=
             false->
             ((cF k.kind&&(decide (k.call<0)||decide (4294967295<k.call))||
                  !cF k.kind&& !decide (k.call=0))=
                true->
               2=aW k)/\
               ((cF k.kind&&(decide (k.call<0)||decide (4294967295<k.call))||
                  !cF k.kind&& !decide (k.call=0))=
                 false->
                 0=aW k))))):=by
 simp only[aW,aA,cy,fK,np];rcases Bool.eq_false_or_eq_true (bB k.kind)with hA|hA<;>rcases Bool.eq_false_or_eq_true (cF k.kind)with hB|hB<;>rcases Bool.eq_false_or_eq_true (eM k.kind)with hC|hC<;>simp only[hA,hB,hC,Bool.true_and,Bool.false_and,Bool.not_true,Bool.not_false,Bool.or_false,Bool.false_or,Bool.true_or,if_true,Bool.false_eq_true,if_false,Bool.and_true]<;>grind
theorem qk:bW Try.prog 9 Hi:=
 jt hJ (fun _=>rfl) fun k hk=>aK (inl:=bx) (ann:=bV) (an Cb az) (Fk k hk) (by kernel_rfl)
theorem A1 (k:Key) (hk:k.wf):
 ((!decide (aW k=0)|| !bB k.kind)=true-> -1=aC k)/\
   ((!decide (aW k=0)|| !bB k.kind)=false->k.oid=aC k):=by
 unfold aC aW;cases aA k<;>cases bB k.kind<;>simp
theorem jc:bW Try.prog 56 DK:=
 jt hJ (fun _=>rfl) fun k hk=>aK (inl:=bx) (ann:=bV) (an Cb (an qk az)) (A1 k hk) (by kernel_rfl)
theorem Ba (k:Key) (hk:k.wf):
 (decide (aC k<0)=true->0=im k)/\
  (decide (aC k<0)=false->
   (decide (k.kind=3)=true->2=im k)/\(decide (k.kind=3)=false->1=im k)):=by
 unfold im;grind
theorem z1:bW Try.prog 85 Es:=
 jt hJ (fun _=>rfl) fun k hk=>aK (inl:=bx) (ann:=bV) (an jc az) (Ba k hk) (by kernel_rfl)
theorem yD (k:Key) (o:Sx.Obj) (hk:k.wf):
 ((!decide (aW k=0))=true->false=bN k o)/\
   ((!decide (aW k=0))=false->
     (decide (aC k<0)=true->true=bN k o)/\
      (decide (aC k<0)=false->
       (decide (o.kind=im k)&&decide (o.count=k.count)&&
         (!decide (k.kind=7)||decide (o.calls=k.call)))=
        bN k o)):=by
 unfold bN aW;cases aA k<;>grind
theorem yx:bW Try.prog 71 vY:=
 pg hJ sY (fun _ _=>rfl) fun k o hk _=>aK (inl:=bx) (ann:=bV) (an qk (an jc (an z1 az))) (yD k o hk) (by kernel_rfl)
end Go.Proofs.Ytmfbohanboiklaa
namespace Go.Sx
def ft (kind n:Int) (k:Key):Bool:=aA k&&decide (aC k<n)&&(decide (kind=1)||decide (k=void))
def dZ (o:Obj) (n:Int):Bool:=
 decide (1<=n)&&decide (n<=64)&&decide (0<=o.kind)&&decide (o.kind<=3)&&decide (0<=o.count)&&decide (o.count<=4294967295)&&decide (0<=o.calls)&&decide (o.calls<=4294967295)&&
 (decide (o.kind=1)||decide (o.calls=0))&&(List.range 16).all (fun i=>ft o.kind n (o.slots.at i))&&
 (List.range 64).all (fun i=>decide (o.kind=1)||decide (o.kind=2)||decide (o.bytes.at i=0))
def bf (o:Obj) (n:Int):Int:=if dZ o n then 0 else 2
def fk (o:Obj) (b:Bool):Bool:=decide (o.slots=iw)&&(b||decide (o.bytes=jG))&&decide (o.calls=0)
def vb (o:Obj) (n:Int) (i:Int):Prop:=0<=i/\i<=16/\∀j:Nat,(j:Int)<i->ft o.kind n (o.slots.at j)=true
def u0 (o:Obj) (n:Int) (i:Int):Prop:=0<=i/\i<=64/\(∀j:Nat,j<16->ft o.kind n (o.slots.at j)=true)/\∀j:Nat,(j:Int)<i->(o.kind=1\/o.kind=2\/o.bytes.at j=0)
def jk (o:Obj) (n:Int) (i:Int):Bool:=(List.range i.toNat).all fun j=>aA (o.slots.at j)&&decide (aC (o.slots.at j)<n)
def uP (i:Int):Prop:=0<=i/\i<=16
def HQ:Ct:=Jn rO toBool fun o b=> .bo (fk o b)
def D2:Ct:=Jn rO (rI .i64) fun o n=> .it .i64 (bf o n)
theorem eV {o:Obj} {n:Int}:dZ o n=true↔1<=n/\n<=64/\0<=o.kind/\o.kind<=3/\0<=o.count/\o.count<=4294967295/\0<=o.calls/\o.calls<=4294967295/\
  (o.kind=1\/o.calls=0)/\(∀i,i<16->ft o.kind n (o.slots.at i)=true)/\∀i,i<64->(o.kind=1\/o.kind=2)\/o.bytes.at i=0:=by
 simp only[dZ,Mu,Mv,Bool.or_eq_true,List.all_eq_true,List.mem_range,and_assoc]
theorem jL {o:Obj} {n:Int} (h:¬dZ o n=true):2=bf o n:=by simp[bf,h]
theorem rU {o:Obj} {n:Int} (h:dZ o n=true):0=bf o n:=by simp[bf,h]
theorem Ai (kind n:Int) (k:Key):(!decide (aW k=0)||decide (n<=aC k)|| !decide (kind=1)&& !EE k void)= !ft kind n k:=by
 unfold ft aW EE;cases aA k<;>grind
theorem ES (b:UInt8):decide (GO b=0)=decide (b=0):=by
 rw[decide_eq_decide,GO];constructor
 ·intro h;have:b.toNat=0:=by omega
  exact UInt8.toNat_inj.1 (by simpa using this)
 ·rintro rfl;rfl
theorem FK {s:b7}:s=iw↔ ∀i,i<16->s.at i=void:=by
 constructor
 ·rintro rfl i _;exact rH i
 ·intro h;refine Vector.ext fun i hi=>?_
  have:=h i hi;unfold b7.at at this;simp only[iw,Vector.getElem_replicate];rw[<-this];simp[hi]
theorem F9 {s:Bytes}:s=jG↔ ∀i,i<64->s.at i=0:=by
 constructor
 ·rintro rfl i hi
  unfold Bytes.at jG;simp[hi]
 ·intro h;refine Vector.ext fun i hi=>?_
  have:=h i hi;unfold Bytes.at at this;simp only[jG,Vector.getElem_replicate];rw[<-this];simp[hi]
theorem zj:aA void=true/\aC void= -1:=by decide
theorem pB {kind n:Int} (hk:kind≠1) (hn:1<=n) (k:Key):ft kind n k=true↔k=void:=by
 unfold ft;simp only[Mu,Mv,Bool.or_eq_true];constructor
 ·rintro⟨_,h|h⟩
  ·exact absurd h hk
  ·exact h
 ·rintro rfl
  exact⟨⟨zj.1,by rw[zj.2];omega⟩,.inr rfl⟩
theorem DJ {o:Obj} {b:Bool}:fk o b=true↔(∀i,i<16->o.slots.at i=void)/\(b=true\/∀i,i<64->o.bytes.at i=0)/\o.calls=0:=by
 simp only[fk,Mu,Mv,Bool.or_eq_true,FK,F9,and_assoc]
theorem xK {o:Obj} {n:Int} (h1:1<=n) (h2:n<=64) (h3:0<=o.count) (h4:o.count<=4294967295) (h5:0<=o.calls) (h6:o.calls<=4294967295) {b:Bool} (hk:0<=o.kind/\o.kind<=3/\o.kind≠1) (hb:b=decide (o.kind=2)):
  dZ o n=fk o b:=by
 rw[Bool.eq_iff_iff,eV,DJ];subst hb;constructor
 ·rintro⟨_,_,_,_,_,_,_,_,h,hs,hz⟩
  refine⟨fun i hi=>(pB hk.2.2 h1 _).1 (hs i hi),?_,h.resolve_left hk.2.2⟩
  by_cases h2:o.kind=2
  ·exact .inl (by simp[h2])
  ·exact .inr fun i hi=>(hz i hi).resolve_left fun h=>h.elim hk.2.2 h2
 ·rintro⟨hs,hz,hc⟩
  refine⟨h1,h2,hk.1,hk.2.1,h3,h4,h5,h6,.inr hc,fun i hi=>(pB hk.2.2 h1 _).2 (hs i hi),fun i hi=>?_⟩
  rcases hz with h|h
  ·exact .inl (.inr (by simpa using h))
  ·exact .inr (h i hi)
theorem xV {o:Obj} {n:Int} (h1:1<=n) (h2:n<=64) (h3:0<=o.count) (h4:o.count<=4294967295) (h5:0<=o.calls) (h6:o.calls<=4294967295) (hk:o.kind=1):dZ o n=jk o n 16:=by
 rw[Bool.eq_iff_iff,eV];simp only[jk,List.all_eq_true,List.mem_range,hk,ft,Mu,decide_true,Bool.true_or,and_true];constructor
 ·rintro⟨_,_,_,_,_,_,_,_,_,hs,_⟩
  exact fun i hi=>hs i hi
 ·intro hs;exact⟨h1,h2,by omega,by omega,h3,h4,h5,h6,.inl trivial,fun i hi=>hs i hi,fun i hi=> .inl (.inl trivial)⟩
theorem Cr {o:Obj} {n g:Int}:(jk o n g&&decide (aW (o.slots.at g.toNat)=0)&&(!aS (o.slots.at g.toNat)||decide (dQ (o.slots.at g.toNat)<n)))=
  (jk o n g&&(aA (o.slots.at g.toNat)&&(!aS (o.slots.at g.toNat)||decide ((o.slots.at g.toNat).oid<n)))):=by
 unfold aW dQ;cases aA (o.slots.at g.toNat)<;>cases aS (o.slots.at g.toNat)<;>simp
theorem CW {o:Obj} {n g:Int} (h0:0<=g) (hn:1<=n):(jk o n g&&decide (aW (o.slots.at g.toNat)=0)&&(!aS (o.slots.at g.toNat)||decide (dQ (o.slots.at g.toNat)<n)))=jk o n (g+1):=by
 rw[Cr];unfold jk;rw[show(g+1).toNat=g.toNat+1 by omega,List.range_succ,List.all_append]
 simp only[List.all_cons,List.all_nil,Bool.and_true];congr 1
 unfold aC aS;cases aA (o.slots.at g.toNat)
 ·rfl
 ·cases bB (o.slots.at g.toNat).kind
  ·simp;omega
  ·simp
end Go.Sx
namespace Go.Proofs.Ytmfbohanboiklaa
open Go.Sx
set_option maxRecDepth 100000
theorem E6 (o:Sx.Obj) (b:Bool):
 (wR o.slots iw&&(b||wU o.bytes jG)&&decide (o.calls=0))=fk o b:=by
 unfold fk wR wU;rfl
theorem E4:bW Try.prog 46 HQ:=
 pg sY CL (fun _ _=>rfl) fun o b _ _=>aK (inl:=bx) (ann:=bV) az (E6 o b) (by kernel_rfl)
theorem BV (o:Sx.Obj) (n:Int):
 ((decide (n<1)||decide (64<n)||decide (o.kind<0)||decide (3<o.kind)||decide (o.count<0)||
             decide (4294967295<o.count)||
            decide (o.calls<0)||
           decide (4294967295<o.calls)||
    !decide (o.kind=1)&& !decide (o.calls=0))=
    true->
   2=bf o n)/\
   ((decide (n<1)||decide (64<n)||decide (o.kind<0)||decide (3<o.kind)||decide (o.count<0)||
              decide (4294967295<o.count)||
             decide (o.calls<0)||
      decide (4294967295<o.calls)||
      !decide (o.kind=1)&& !decide (o.calls=0))=
     false->
     (∃g,vb o n g/\n=n/\o.kind=o.kind/\0=g/\o=o)/\
      ∀(g:Int),
       vb o n g->
        (decide (g<16)=true->
          (0<=g/\g< ↑16)/\
           ((!!decide (aW (o.slots.at g.toNat)=0))=true->0<=g/\g< ↑16)/\
             ((!decide (o.kind=1)&&
                !(!decide (aW (o.slots.at g.toNat)=0)||
                  decide (n<=aC (o.slots.at g.toNat))))=
                true->
               0<=g/\g< ↑16)/\
               ((!decide (aW (o.slots.at g.toNat)=0)||decide (n<=aC (o.slots.at g.toNat))||
                  !decide (o.kind=1)&& !EE (o.slots.at g.toNat) void)=
                  true->
                 2=bf o n)/\
                 ((!decide (aW (o.slots.at g.toNat)=0)||decide (n<=aC (o.slots.at g.toNat))||
                    !decide (o.kind=1)&& !EE (o.slots.at g.toNat) void)=
                   false->
                   br IntKind.i64 (g+1)/\
                    ∃g',
                     vb o n g'/\
                      (16-g').toNat<(16-g).toNat/\n=n/\o.kind=o.kind/\g+1=g'/\o=o))/\
         (decide (g<16)=false->
          (∃g,u0 o n g/\n=n/\o.kind=o.kind/\0=g/\o=o)/\
           ∀(g:Int),
            u0 o n g->
             (decide (g<64)=true->
               ((!decide (o.kind=1)&& !decide (o.kind=2))=true->0<=g/\g< ↑64)/\
                 ((!decide (o.kind=1)&& !decide (o.kind=2)&&
                    !decide (GO (o.bytes.at g.toNat)=0))=
                    true->
                   2=bf o n)/\
                   ((!decide (o.kind=1)&& !decide (o.kind=2)&&
                      !decide (GO (o.bytes.at g.toNat)=0))=
                     false->
                     br IntKind.i64 (g+1)/\
                      ∃g',
                       u0 o n g'/\
                        (64-g').toNat<(64-g).toNat/\
                         n=n/\o.kind=o.kind/\g+1=g'/\o=o))/\
              (decide (g<64)=false->0=bf o n))):=by
 refine⟨fun h=>jL fun hh=>?_,fun h=>⟨⟨0,⟨by omega,by omega,fun j hj=>by omega⟩,rfl,rfl,rfl,rfl⟩,fun g hg=>⟨fun hlt=>?_,fun hge=>?_⟩⟩⟩
 ·have:=eV.1 hh;simp only[Bool.or_eq_true,Mu,Bool.not_eq_true',Mv,decide_eq_false_iff_not]at h;omega
 ·obtain⟨g0,g1,g2⟩:=hg;have hlt:=My hlt;rw[Ai];refine⟨⟨g0,by omega⟩,fun _=>⟨g0,by omega⟩,fun _=>⟨g0,by omega⟩,fun hbad=>jL fun hh=>?_,fun hok=>⟨?_,g+1,⟨by omega,by omega,fun j hj=>?_⟩,by omega,rfl,rfl,rfl,rfl⟩⟩
  ·have:=(eV.1 hh).2.2.2.2.2.2.2.2.2.1 g.toNat (by omega)
   rw[this]at hbad;simp at hbad
  ·simp only[br,bJ];omega
  ·by_cases e:(j:Int)<g
   ·exact g2 j e
   ·have:j=g.toNat:=by omega
    subst this;simpa using hok
 ·obtain⟨g0,g1,g2⟩:=hg;have hge:¬g<16:=Mx hge;refine⟨⟨0,⟨by omega,by omega,fun j hj=>g2 j (by omega),fun j hj=>by omega⟩,rfl,rfl,rfl,rfl⟩,fun g hg=>⟨fun hlt=>?_,fun hge=>rU ?_⟩⟩
  ·obtain⟨k0,k1,k2,k3⟩:=hg;have hlt:=My hlt;simp only[ES];refine⟨fun _=>⟨k0,by omega⟩,fun hbad=>jL fun hh=>?_,fun hok=>⟨?_,g+1,⟨by omega,by omega,k2,fun j hj=>?_⟩,by omega,by simp⟩⟩
   ·have:=(eV.1 hh).2.2.2.2.2.2.2.2.2.2 g.toNat (by omega)
    simp only[Mu,Bool.not_eq_true',decide_eq_false_iff_not]at hbad;grind
   ·simp only[br,bJ];omega
   ·by_cases e:(j:Int)<g
    ·exact k3 j e
    ·have:j=g.toNat:=by omega
     subst this;simp only[Bool.and_eq_false_iff,Bool.not_eq_false',Mv]at hok;grind
  ·obtain⟨k0,k1,k2,k3⟩:=hg;have hge:¬g<64:=Mx hge;simp only[Bool.or_eq_false_iff,Bool.and_eq_false_iff,Bool.not_eq_false',Mv,decide_eq_false_iff_not]at h;refine eV.2 ⟨by omega,by omega,by omega,by omega,by omega,by omega,by omega,by omega,by omega,k2,fun i hi=>?_⟩
   have:=k3 i (by omega)
   grind
theorem Ed:bW Try.prog 43 D2:=
 pg sY (fy .i64) (fun _ _=>rfl) fun o n _ _=>aK (inl:=bx) (ann:=(kQ [(43,5,LZ [1,2,5] 6 (vb o n) 16),(43,10,LZ [1,2,5] 7 (u0 o n) 64)])) (an qk (an jc az)) (BV o n) (by kernel_rfl)
theorem E9 (o:Sx.Obj) (n:Int):
 ((decide (n<1)||decide (64<n)||decide (o.count<0)||decide (4294967295<o.count)||
           decide (o.calls<0)||
    decide (4294967295<o.calls))=
    true->
   2=bf o n)/\
   ((decide (n<1)||decide (64<n)||decide (o.count<0)||decide (4294967295<o.count)||
      decide (o.calls<0)||
      decide (4294967295<o.calls))=
     false->
     (decide (o.kind=0)=true->
       ((!fk o false)=true->2=bf o n)/\((!fk o false)=false->0=bf o n))/\
      (decide (o.kind=0)=false->
       (decide (o.kind=3)=true->
         ((!fk o false)=true->2=bf o n)/\((!fk o false)=false->0=bf o n))/\
        (decide (o.kind=3)=false->
         (decide (o.kind=2)=true->
           ((!fk o true)=true->2=bf o n)/\((!fk o true)=false->0=bf o n))/\
          (decide (o.kind=2)=false->
           (decide (o.kind=1)=true->
             (∃g,uP g/\n=n/\true=jk o n g/\o.slots=o.slots/\0=g/\o=o)/\
              ∀(g:Int),
               uP g->
                (decide (g<16)=true->
                  (0<=g/\g< ↑16)/\
                   br IntKind.i64 (g+1)/\
                    ∃g',
                     uP g'/\
                      (16-g').toNat<(16-g).toNat/\
                       n=n/\
                        (jk o n g&&decide (aW (o.slots.at g.toNat)=0)&&
                           (!aS (o.slots.at g.toNat)||
                            decide (dQ (o.slots.at g.toNat)<n)))=
                          jk o n g'/\
                         o.slots=o.slots/\g+1=g'/\o=o)/\
                 (decide (g<16)=false->
                  ((!jk o n g)=true->2=bf o n)/\((!jk o n g)=false->0=bf o n)))/\
            (decide (o.kind=1)=false->2=bf o n))))):=by
 refine⟨fun h=>jL fun hh=>?_,fun h=>?_⟩
 ·have:=eV.1 hh;simp only[Bool.or_eq_true,Mv]at h;omega
 ·simp only[Bool.or_eq_false_iff,decide_eq_false_iff_not]at h
  have hb:∀(b:Bool),(0<=o.kind/\o.kind<=3/\o.kind≠1)->b=decide (o.kind=2)->((!fk o b)=true->2=bf o n)/\((!fk o b)=false->0=bf o n):=fun b h1 h2=>by
   have he:=xK (o:=o) (n:=n) (b:=b) (by omega) (by omega) (by omega) (by omega) (by omega) (by omega) h1 h2
   exact⟨fun hn=>jL (by rw[he];simpa using hn),fun hy=>rU (by rw[he];simpa using hy)⟩
  refine⟨fun h0=>?_,fun h0=>⟨fun h3=>?_,fun h3=>⟨fun h2=>?_,fun h2=>⟨fun h1=>⟨⟨0,⟨by omega,by omega⟩,rfl,rfl,rfl,rfl,rfl⟩,fun g hg=>⟨fun hlt=>?_,fun hge=>?_⟩⟩,fun h1=>jL fun hh=>?_⟩⟩⟩⟩
  ·have h0:=My h0;exact hb false (by omega) (by simp[h0])
  ·have h3:=My h3;exact hb false (by omega) (by simp[h3])
  ·have h2:=My h2;exact hb true (by omega) (by simp[h2])
  ·obtain⟨g0,g1⟩:=hg;have hlt:=My hlt;refine⟨⟨g0,by omega⟩,by simp only[br,bJ];omega,g+1,⟨by omega,by omega⟩,by omega,rfl,CW g0 (by omega),rfl,rfl,rfl⟩
  ·obtain⟨g0,g1⟩:=hg;have hge:¬g<16:=Mx hge;have h1:=My h1;have e:g=16:=by omega
   subst e;have he:=xV (o:=o) (n:=n) (by omega) (by omega) (by omega) (by omega) (by omega) (by omega) h1
   exact⟨fun hn=>jL (by rw[he];simpa using hn),fun hy=>rU (by rw[he];simpa using hy)⟩
  ·have:=eV.1 hh;have h0:¬o.kind=0:=Mx h0;have h1:¬o.kind=1:=Mx h1;have h2:¬o.kind=2:=Mx h2;have h3:¬o.kind=3:=Mx h3;omega
theorem uw:bW Try.prog 25 D2:=
 pg sY (fy .i64) (fun _ _=>rfl) fun o n _ _=>aK (inl:=bx) (ann:=(kQ [(25,12,Ji [1,2,51] (fun g=> [(52,.it .i64 g),(5,.bo (jk o n g))]) uP 16)])) (an E4 (an qy (an jm az))) (E9 o n) (by kernel_rfl)
end Go.Proofs.Ytmfbohanboiklaa
