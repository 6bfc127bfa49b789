import Derived.Test.YtmfbohanboiklaaSxF
set_option linter.unusedSimpArgs false
set_option linter.unusedVariables false
namespace Go.Sx
def cC (h:Bool) (n m:Int):Bool:=if h then decide (0<=n)&&decide (n<=m)else decide (n=0)
def bE (n:Int):Bool:=decide (2<=n)&&decide (n<=7)
def oz (n:Int):Bool:=decide (n=2)||decide (n=3)
def cL (n:Int):Bool:=decide (n=7)
def eQ (n:Int):Bool:=decide (n=1)||decide (n=6)
def fK (n:Int):Int:=if n=2 then 7 else if n=3 then 1 else 0
def aB (k:Key):Bool:=
 decide (0<=k.kind)&&decide (k.kind<=10)&&decide (0<=k.rights)&&decide (k.rights<=fK k.kind)&&(eQ k.kind||decide (k.value=0))&&
 cC (bE k.kind) k.oid 63&&cC (bE k.kind) k.count 4294967295&&cC (cL k.kind) k.call 4294967295
def aY (k:Key):Int:=if aB k then 0 else 2
def aD (k:Key):Int:=if aB k&&bE k.kind then k.oid else -1
def iI (k:Key):Int:=if aD k<0 then 0 else if k.kind=3 then 2 else 1
def bP (k:Key) (o:Obj):Bool:=
 aB k&&(decide (aD k<0)||(decide (o.kind=iI k)&&decide (o.count=k.count)&&(!decide (k.kind=7)||decide (o.calls=k.call))))
def HP (k:Key):Bool:=decide (0<=k.kind)&&decide (k.kind<=10)
def il (n:Nat):ByteArray:=
 match n with
 |0=> "void".toUTF8
 |1=> "number".toUTF8
 |2=> "node".toUTF8
 |3=> "page".toUTF8
 |4=> "bank".toUTF8
 |5=> "proc".toUTF8
 |6=> "start".toUTF8
 |7=> "resume".toUTF8
 |8=> "discrim".toUTF8
 |9=> "clock".toUTF8
 |10=> "check".toUTF8
 |_=>ByteArray.empty
def kd (s:ByteArray) (a b c d:Bool) (m w:Int):V:= .ag [.st s,.cb a,.cb b,.cb c,.cb d,.ci .i64 m,.ci .i64 w]
def vy:V:= .ag [kd (il 0) false false false false 0 0,kd (il 1) false false false true 0 0,kd (il 2) true true false false 7 1,kd (il 3) true true false false 1 2,
 kd (il 4) true false false false 0 1,kd (il 5) true false false false 0 1,kd (il 6) true false false true 0 1,kd (il 7) true false true false 0 1,
 kd (il 8) false false false false 0 0,kd (il 9) false false false false 0 0,kd (il 10) false false false false 0 0]
def qG (k:Key):ByteArray:=if HP k then il k.kind.toNat else ByteArray.empty
def my (n:Int):Int:=if n=3 then 2 else if 2<=n/\n<=7 then 1 else 0
def C3:Ct:=LX toBool (rI .i64) (rI .i64) fun h n m=> .bo (cC h n m)
def Ky:Ct:=Fg rK fun k=> .tp [.ag [.st (qG k),.bo (bE k.kind),.bo (oz k.kind),.bo (cL k.kind),.bo (eQ k.kind),.it .i64 (fK k.kind),.it .i64 (my k.kind)],.bo (aB k)]
def Kj:Ct:=Fg (rI .i64) fun n=> .tp [.bo (bE n),.bo (oz n),.bo (cL n),.bo (eQ n)]
def Hu:Ct:=Fg rK fun k=> .it .i64 (aY k)
def aW (k:Key):Bool:=aB k&&bE k.kind
def dV (k:Key):Int:=if aW k then k.oid else 0
def Cn:Ct:=Fg rK fun k=> .tp [.it .i64 (dV k),.bo (aW k)]
def DD:Ct:=Fg rK fun k=> .it .i64 (aD k)
def ET:Ct:=Fg rK fun k=> .it .i64 (iI k)
def wv:Ct:=J1 rK rO fun k o=> .bo (bP k o)
theorem wrap_i64 {n:Int} (h:bC .i64 n):IntKind.wrap .i64 n=n:=by
 have:=h;simp only[bC]at this;unfold IntKind.wrap;simp[IntKind.bits,IntKind.signed];omega
theorem mR {r:Int} (j:Nat) (hj:j<63) (h0:0<=r) (h1:r<=9223372036854775807):b6 .andNot .i64 r ((2^j-1:Nat):Int)=0↔r<2^j:=by
 obtain⟨n,rfl⟩:=Int.eq_ofNat_of_zero_le h0;have hn:n<2^64:=by omega
 have hbit:∀i,(BitVec.ofInt 64 (n:Int)).getLsbD i=n.testBit i:=by
  intro i;rw[BitVec.ofInt_natCast,BitVec.getLsbD_ofNat];by_cases hi:i<64
  ·simp[hi]
  ·rw[Nat.testBit_lt_two_pow (Nat.lt_of_lt_of_le hn (Nat.pow_le_pow_right (by omega) (by omega)))];simp
 have hx:(BitVec.ofInt 64 (n:Int) &&& ~~~BitVec.ofInt 64 ((2^j-1:Nat):Int)).toNat=0↔n<2^j:=by
  constructor
  ·intro h;refine Nat.lt_pow_two_of_testBit _ fun i hi=>?_
   rcases Nat.lt_or_ge i 64 with h64|h64
   ·have h2:(BitVec.ofInt 64 (n:Int) &&& ~~~BitVec.ofInt 64 ((2^j-1:Nat):Int)).getLsbD i=false:=by
     rw[BitVec.getLsbD,h];simp
    rw[BitVec.getLsbD_and,hbit,BitVec.getLsbD_not,BitVec.ofInt_natCast,BitVec.getLsbD_ofNat,Nat.testBit_two_pow_sub_one]at h2;simp only[h64,decide_true,Bool.true_and,show¬i<j by omega,decide_false,Bool.not_false,Bool.and_true]at h2
    exact h2
   ·exact Nat.testBit_lt_two_pow (Nat.lt_of_lt_of_le hn (Nat.pow_le_pow_right (by omega) h64))
  ·intro h
   have:BitVec.ofInt 64 (n:Int) &&& ~~~BitVec.ofInt 64 ((2^j-1:Nat):Int)=0#64:=by
    refine BitVec.eq_of_getLsbD_eq fun i hi=>?_
    rw[BitVec.getLsbD_and,hbit,BitVec.getLsbD_not,BitVec.ofInt_natCast,BitVec.getLsbD_ofNat,Nat.testBit_two_pow_sub_one];by_cases hij:i<j
    ·simp[hij,hi]
    ·rw[Nat.testBit_lt_two_pow (Nat.lt_of_lt_of_le h (Nat.pow_le_pow_right (by omega) (by omega)))];simp
   rw[this];rfl
 have hle:(BitVec.ofInt 64 (n:Int) &&& ~~~BitVec.ofInt 64 ((2^j-1:Nat):Int)).toNat<=n:=by
  rw[BitVec.toNat_and];refine Nat.le_trans Nat.and_le_left ?_;rw[BitVec.ofInt_natCast,BitVec.toNat_ofNat];exact Nat.mod_le _ _
 have hp:((2^j:Nat):Int)=(2:Int)^j:=by simp
 change IntKind.wrap .i64 (((BitVec.ofInt 64 (n:Int) &&& ~~~BitVec.ofInt 64 ((2^j-1:Nat):Int)).toNat:Nat):Int)=0↔_
 generalize (BitVec.ofInt 64 (n:Int) &&& ~~~BitVec.ofInt 64 ((2^j-1:Nat):Int)).toNat=x at *
 rw[wrap_i64 (by simp only[bC];omega),<-hp]
 omega
theorem F6 {r:Int} (h0:0<=r) (h1:r<=9223372036854775807):b6 .andNot .i64 r 7=0↔r<=7:=by
 have:=mR 3 (by omega) h0 h1
 rw[show((2^3-1:Nat):Int)=7 from rfl,show(2:Int)^3=8 from rfl]at this;rw[this];omega
theorem Gi {r:Int} (h0:0<=r) (h1:r<=9223372036854775807):b6 .andNot .i64 r 1=0↔r<=1:=by
 have:=mR 1 (by omega) h0 h1
 rw[show((2^1-1:Nat):Int)=1 from rfl,show(2:Int)^1=2 from rfl]at this;rw[this];omega
theorem FY {r:Int} (h0:0<=r) (h1:r<=9223372036854775807):b6 .andNot .i64 r 0=0↔r<=0:=by
 have:=mR 0 (by omega) h0 h1
 rw[show((2^0-1:Nat):Int)=0 from rfl,show(2:Int)^0=1 from rfl]at this;rw[this];omega
theorem EB {r m:Int} {b:Bool} (h:0<=r->(b=decide (r<=m))):(decide (0<=r)&&b)=(decide (0<=r)&&decide (r<=m)):=by
 by_cases h0:0<=r
 ·rw[h h0]
 ·simp[h0]
end Go.Sx
namespace Go.Proofs.Ytmfbohanboiklaa
open Go.Sx
set_option maxRecDepth 100000
theorem Br (h:Bool) (n m:Int):
 (h&&decide (0<=n)&&decide (n<=m)|| !h&&decide (n=0))=cC h n m:=by
 unfold cC;cases h<;>simp
theorem BP:bW Try.prog 73 C3:=
 JN C4 (fD .i64) (fD .i64) (fun _ _ _=>rfl) fun h n m _ _ _=>aL (inl:=bw) (ann:=bY) az (Br h n m) (by kernel_rfl)
theorem D0:bW Try.prog 72 (JV vy):=
 JG rfl (aL (inl:=bw) (ann:=bY) az (G:=vy=vy) rfl (by kernel_rfl):ai _ _ _ _ (fun v _=>v=vy) (fun _ _=>False))
theorem Iv (k:Key) (hk:k.wf):
 ((decide (k.kind<0)||decide (10<k.kind))=true->
   {data:= {toList:= []}}=qG k/\
    false=bE k.kind/\
     false=oz k.kind/\
      false=cL k.kind/\false=eQ k.kind/\0=fK k.kind/\0=my k.kind/\false=aB k)/\
   ((decide (k.kind<0)||decide (10<k.kind))=false->
     (0<=k.kind/\k.kind< ↑11)/\
      au [il 0,il 1,il 2,il 3,il 4,il 5,il 6,il 7,il 8,il 9,il 10] k.kind.toNat
          {data:= {toList:= []}}=
        qG k/\
       au [false,false,true,true,true,true,true,true,false,false,false] k.kind.toNat false=
         bE k.kind/\
        au [false,false,true,true,false,false,false,false,false,false,false] k.kind.toNat false=
          oz k.kind/\
         au [false,false,false,false,false,false,false,true,false,false,false] k.kind.toNat false=
           cL k.kind/\
          au [false,true,false,false,false,false,true,false,false,false,false] k.kind.toNat false=
            eQ k.kind/\
           au [0,0,7,1,0,0,0,0,0,0,0] k.kind.toNat 0=fK k.kind/\
            au [0,0,1,2,1,1,1,1,0,0,0] k.kind.toNat 0=my k.kind/\
             (cC
                (au [false,false,true,true,true,true,true,true,false,false,false]
                 k.kind.toNat false)
                k.oid 63&&
                cC
                 (au [false,false,true,true,true,true,true,true,false,false,false]
                  k.kind.toNat false)
                 k.count 4294967295&&
                cC
                 (au [false,false,false,false,false,false,false,true,false,false,false]
                  k.kind.toNat false)
                 k.call 4294967295&&
                decide (0<=k.rights)&&
                decide
                 (b6 BinOp.andNot IntKind.i64 k.rights
                   (au [0,0,7,1,0,0,0,0,0,0,0] k.kind.toNat 0)=
                  0)&&
               (au [false,true,false,false,false,false,true,false,false,false,false] k.kind.toNat
                 false||
                decide (k.value=0)))=
              aB k):=by
 obtain⟨kind,oid,count,call,rights,value⟩:=k;have hr:rights<=9223372036854775807:=hk.2.2.2.2.1.2;simp only;have he:(ByteArray.empty:ByteArray)= {data:= {toList:= []}}:=rfl;refine⟨fun h=>?_,fun h=>?_⟩
 ·simp only[Bool.or_eq_true,M9]at h;refine⟨?_,?_,?_,?_,?_,?_,?_,?_⟩<;>simp only[qG,HP,bE,oz,cL,eQ,fK,my,aB]<;>grind
 ·simp only[Bool.or_eq_false_iff,decide_eq_false_iff_not]at h;have hb:∀m,(0<=rights->(decide (b6 .andNot .i64 rights m=0))=decide (rights<=m))->(decide (0<=rights)&&decide (b6 .andNot .i64 rights m=0))=(decide (0<=rights)&&decide (rights<=m)):=fun m hm=>EB hm
  have h7:=hb 7 fun h0=>by rw[decide_eq_decide];exact F6 h0 hr
  have h1:=hb 1 fun h0=>by rw[decide_eq_decide];exact Gi h0 hr
  have h0:=hb 0 fun h0=>by rw[decide_eq_decide];exact FY h0 hr
  have hc:kind=0\/kind=1\/kind=2\/kind=3\/kind=4\/kind=5\/kind=6\/kind=7\/kind=8\/kind=9\/kind=10:=by omega
  rcases hc with rfl|rfl|rfl|rfl|rfl|rfl|rfl|rfl|rfl|rfl|rfl<;>
   refine⟨⟨by decide,by decide⟩,rfl,rfl,rfl,rfl,rfl,rfl,rfl,?_⟩<;>
   simp only[au,aB,bE,eQ,cL,fK,Int.reduceToNat,List.getD_cons_zero,List.getD_cons_succ,Bool.and_assoc]<;>
   simp+decide [cC]<;>grind
theorem y0:bW Try.prog 61 Ky:=
 j6 ia (fun _=>rfl) fun k hk=>aL (inl:=bw) (ann:=bY) (an BP (an D0 az)) (Iv k hk) (by kernel_rfl)
theorem GQ (k:Key) (hk:k.wf):
 ((!aB k)=true->2=aY k)/\((!aB k)=false->0=aY k):=by
 unfold aY;cases aB k<;>simp
theorem qK:bW Try.prog 47 Hu:=
 j6 ia (fun _=>rfl) fun k hk=>aL (inl:=bw) (ann:=bY) (an y0 az) (GQ k hk) (by kernel_rfl)
theorem AQ (k:Key) (hk:k.wf):
 ((!aB k|| !bE k.kind)=true->0=dV k/\false=aW k)/\
   ((!aB k|| !bE k.kind)=false->k.oid=dV k/\true=aW k):=by
 unfold dV aW;cases aB k<;>cases bE k.kind<;>simp
theorem jz:bW Try.prog 40 Cn:=
 j6 ia (fun _=>rfl) fun k hk=>aL (inl:=bw) (ann:=bY) (an y0 az) (AQ k hk) (by kernel_rfl)
theorem zn (k:Key) (o:Sx.Obj) (hk:k.wf):
 ((!aB k)=true->false=bP k o)/\
   ((!aB k)=false->
     ((!bE k.kind)=true->true=bP k o)/\
       ((!bE k.kind)=false->
         (decide (o.kind=my k.kind)&&decide (o.count=k.count)&&
           (!cL k.kind||decide (o.calls=k.call)))=
          bP k o)):=by
 cases hok:aB k
 ·simp[bP,hok]
 ·have h0:bE k.kind=true->0<=k.oid:=fun h=>by
   simp only[aB,cC,h,if_true,M8,M9]at hok;omega
  simp only[bP,iI,aD,my,cL,hok,Bool.true_and];simp only[bE]at *;grind
theorem sj:bW Try.prog 86 wv:=
 oU ia tf (fun _ _=>rfl) fun k o hk _=>aL (inl:=bw) (ann:=bY) (an y0 az) (zn k o hk) (by kernel_rfl)
theorem Jx (n:Int):
 (decide (2<=n)&&decide (n<=7))=bE n/\
  (decide (n=2)||decide (n=3))=oz n/\
   decide (n=7)=cL n/\(decide (n=1)||decide (n=6))=eQ n:=by
 exact⟨rfl,rfl,rfl,rfl⟩
theorem Co:bW Try.prog 22 Kj:=
 j6 (fD .i64) (fun _=>rfl) fun n _=>aL (inl:=bw) (ann:=bY) az (Jx n) (by kernel_rfl)
theorem G2 (k:Key) (hk:k.wf):
 (oz k.kind=true->
   (decide (k.kind=3)=true->
     ((decide (k.kind<0)||decide (10<k.kind)||decide (k.rights<0)||decide (1<k.rights)||
        !eQ k.kind&& !decide (k.value=0))=
        true->
       2=aY k)/\
       ((decide (k.kind<0)||decide (10<k.kind)||decide (k.rights<0)||decide (1<k.rights)||
          !eQ k.kind&& !decide (k.value=0))=
         false->
         ((bE k.kind&&
            (decide (k.oid<0)||decide (64<=k.oid)||decide (k.count<0)||
             decide (4294967295<k.count))||
               !bE k.kind&&(!decide (k.oid=0)|| !decide (k.count=0)))=
            true->
           2=aY k)/\
           ((bE k.kind&&
                (decide (k.oid<0)||decide (64<=k.oid)||decide (k.count<0)||
                 decide (4294967295<k.count))||
              !bE k.kind&&(!decide (k.oid=0)|| !decide (k.count=0)))=
             false->
             ((cL k.kind&&(decide (k.call<0)||decide (4294967295<k.call))||
                  !cL k.kind&& !decide (k.call=0))=
                true->
               2=aY k)/\
               ((cL k.kind&&(decide (k.call<0)||decide (4294967295<k.call))||
                  !cL k.kind&& !decide (k.call=0))=
                 false->
                 0=aY k))))/\
    (decide (k.kind=3)=false->
     ((decide (k.kind<0)||decide (10<k.kind)||decide (k.rights<0)||decide (7<k.rights)||
        !eQ k.kind&& !decide (k.value=0))=
        true->
       2=aY k)/\
       ((decide (k.kind<0)||decide (10<k.kind)||decide (k.rights<0)||decide (7<k.rights)||
          !eQ k.kind&& !decide (k.value=0))=
         false->
         ((bE k.kind&&
            (decide (k.oid<0)||decide (64<=k.oid)||decide (k.count<0)||
             decide (4294967295<k.count))||
               !bE k.kind&&(!decide (k.oid=0)|| !decide (k.count=0)))=
            true->
           2=aY k)/\
           ((bE k.kind&&
                (decide (k.oid<0)||decide (64<=k.oid)||decide (k.count<0)||
                 decide (4294967295<k.count))||
              !bE k.kind&&(!decide (k.oid=0)|| !decide (k.count=0)))=
             false->
             ((cL k.kind&&(decide (k.call<0)||decide (4294967295<k.call))||
                  !cL k.kind&& !decide (k.call=0))=
                true->
               2=aY k)/\
               ((cL k.kind&&(decide (k.call<0)||decide (4294967295<k.call))||
                  !cL k.kind&& !decide (k.call=0))=
                 false->
                 0=aY k)))))/\
  (oz k.kind=false->
   (decide (k.kind=3)=true->
     ((decide (k.kind<0)||decide (10<k.kind)||decide (k.rights<0)||decide (1<k.rights)||
        !eQ k.kind&& !decide (k.value=0))=
        true->
       2=aY k)/\
       ((decide (k.kind<0)||decide (10<k.kind)||decide (k.rights<0)||decide (1<k.rights)||
          !eQ k.kind&& !decide (k.value=0))=
         false->
         ((bE k.kind&&
            (decide (k.oid<0)||decide (64<=k.oid)||decide (k.count<0)||
             decide (4294967295<k.count))||
               !bE k.kind&&(!decide (k.oid=0)|| !decide (k.count=0)))=
            true->
           2=aY k)/\
           ((bE k.kind&&
                (decide (k.oid<0)||decide (64<=k.oid)||decide (k.count<0)||
                 decide (4294967295<k.count))||
              !bE k.kind&&(!decide (k.oid=0)|| !decide (k.count=0)))=
             false->
             ((cL k.kind&&(decide (k.call<0)||decide (4294967295<k.call))||
                  !cL k.kind&& !decide (k.call=0))=
                true->
               2=aY k)/\
               ((cL k.kind&&(decide (k.call<0)||decide (4294967295<k.call))||
                  !cL k.kind&& !decide (k.call=0))=
                 false->
                 0=aY k))))/\
    (decide (k.kind=3)=false->
     ((decide (k.kind<0)||decide (10<k.kind)||decide (k.rights<0)||decide (0<k.rights)||
        !eQ k.kind&& !decide (k.value=0))=
        true->
       2=aY k)/\
       ((decide (k.kind<0)||decide (10<k.kind)||decide (k.rights<0)||decide (0<k.rights)||
          !eQ k.kind&& !decide (k.value=0))=
         false->
         ((bE k.kind&&
            (decide (k.oid<0)||decide (64<=k.oid)||decide (k.count<0)||
             decide (4294967295<k.count))||
               !bE k.kind&&(!decide (k.oid=0)|| !decide (k.count=0)))=
            true->
           2=aY k)/\
           ((bE k.kind&&
                (decide (k.oid<0)||decide (64<=k.oid)||decide (k.count<0)||
                 decide (4294967295<k.count))||
              !bE k.kind&&(!decide (k.oid=0)|| !decide (k.count=0)))=
             false->
             ((cL k.kind&&(decide (k.call<0)||decide (4294967295<k.call))||
                  !cL k.kind&& !decide (k.call=0))=
                true->
               2=aY k)/\
               ((cL k.kind&&(decide (k.call<0)||decide (4294967295<k.call))||
                  !cL k.kind&& !decide (k.call=0))=
                 false->
                 0=aY k))))):=by
 simp only[aY,aB,cC,fK,oz];rcases Bool.eq_false_or_eq_true (bE k.kind)with hA|hA<;>rcases Bool.eq_false_or_eq_true (cL k.kind)with hB|hB<;>rcases Bool.eq_false_or_eq_true (eQ k.kind)with hC|hC<;>simp only[hA,hB,hC,Bool.true_and,Bool.false_and,Bool.not_true,Bool.not_false,Bool.or_false,Bool.false_or,Bool.true_or,if_true,Bool.false_eq_true,if_false,Bool.and_true]<;>grind
theorem oy:bW Try.prog 9 Hu:=
 j6 ia (fun _=>rfl) fun k hk=>aL (inl:=bw) (ann:=bY) (an Co az) (G2 k hk) (by kernel_rfl)
theorem AH (k:Key) (hk:k.wf):
 ((!decide (aY k=0)|| !bE k.kind)=true-> -1=aD k)/\
   ((!decide (aY k=0)|| !bE k.kind)=false->k.oid=aD k):=by
 unfold aD aY;cases aB k<;>cases bE k.kind<;>simp
theorem jf:bW Try.prog 56 DD:=
 j6 ia (fun _=>rfl) fun k hk=>aL (inl:=bw) (ann:=bY) (an Co (an oy az)) (AH k hk) (by kernel_rfl)
theorem AL (k:Key) (hk:k.wf):
 (decide (aD k<0)=true->0=iI k)/\
  (decide (aD k<0)=false->
   (decide (k.kind=3)=true->2=iI k)/\(decide (k.kind=3)=false->1=iI k)):=by
 unfold iI;grind
theorem AK:bW Try.prog 85 ET:=
 j6 ia (fun _=>rfl) fun k hk=>aL (inl:=bw) (ann:=bY) (an jf az) (AL k hk) (by kernel_rfl)
theorem zc (k:Key) (o:Sx.Obj) (hk:k.wf):
 ((!decide (aY k=0))=true->false=bP k o)/\
   ((!decide (aY k=0))=false->
     (decide (aD k<0)=true->true=bP k o)/\
      (decide (aD k<0)=false->
       (decide (o.kind=iI k)&&decide (o.count=k.count)&&
         (!decide (k.kind=7)||decide (o.calls=k.call)))=
        bP k o)):=by
 unfold bP aY;cases aB k<;>grind
theorem yy:bW Try.prog 71 wv:=
 oU ia tf (fun _ _=>rfl) fun k o hk _=>aL (inl:=bw) (ann:=bY) (an oy (an jf (an AK az))) (zc k o hk) (by kernel_rfl)
end Go.Proofs.Ytmfbohanboiklaa
namespace Go.Sx
def fy (kind n:Int) (k:Key):Bool:=aB k&&decide (aD k<n)&&(decide (kind=1)||decide (k=void))
def dI (o:Obj) (n:Int):Bool:=
 decide (1<=n)&&decide (n<=64)&&decide (0<=o.kind)&&decide (o.kind<=3)&&decide (0<=o.count)&&decide (o.count<=4294967295)&&decide (0<=o.calls)&&decide (o.calls<=4294967295)&&
 (decide (o.kind=1)||decide (o.calls=0))&&(List.range 16).all (fun i=>fy o.kind n (o.slots.at i))&&
 (List.range 64).all (fun i=>decide (o.kind=1)||decide (o.kind=2)||decide (o.bytes.at i=0))
def bh (o:Obj) (n:Int):Int:=if dI o n then 0 else 2
def fj (o:Obj) (b:Bool):Bool:=decide (o.slots=eX)&&(b||decide (o.bytes=gF))&&decide (o.calls=0)
def vF (o:Obj) (n:Int) (i:Int):Prop:=0<=i/\i<=16/\∀j:Nat,(j:Int)<i->fy o.kind n (o.slots.at j)=true
def vn (o:Obj) (n:Int) (i:Int):Prop:=0<=i/\i<=64/\(∀j:Nat,j<16->fy o.kind n (o.slots.at j)=true)/\∀j:Nat,(j:Int)<i->(o.kind=1\/o.kind=2\/o.bytes.at j=0)
def jy (o:Obj) (n:Int) (i:Int):Bool:=(List.range i.toNat).all fun j=>aB (o.slots.at j)&&decide (aD (o.slots.at j)<n)
def vC (i:Int):Prop:=0<=i/\i<=16
def IZ:Ct:=J1 rO toBool fun o b=> .bo (fj o b)
def D5:Ct:=J1 rO (rI .i64) fun o n=> .it .i64 (bh o n)
theorem fg {o:Obj} {n:Int}:dI o n=true↔1<=n/\n<=64/\0<=o.kind/\o.kind<=3/\0<=o.count/\o.count<=4294967295/\0<=o.calls/\o.calls<=4294967295/\
  (o.kind=1\/o.calls=0)/\(∀i,i<16->fy o.kind n (o.slots.at i)=true)/\∀i,i<64->(o.kind=1\/o.kind=2)\/o.bytes.at i=0:=by
 simp only[dI,M8,M9,Bool.or_eq_true,List.all_eq_true,List.mem_range,and_assoc]
theorem j3 {o:Obj} {n:Int} (h:¬dI o n=true):2=bh o n:=by simp[bh,h]
theorem sB {o:Obj} {n:Int} (h:dI o n=true):0=bh o n:=by simp[bh,h]
theorem AD (kind n:Int) (k:Key):(!decide (aY k=0)||decide (n<=aD k)|| !decide (kind=1)&& !Fh k void)= !fy kind n k:=by
 unfold fy aY Fh;cases aB k<;>grind
theorem GX (b:UInt8):decide (Ge b=0)=decide (b=0):=by
 rw[decide_eq_decide,Ge];constructor
 ·intro h;have:b.toNat=0:=by omega
  exact UInt8.toNat_inj.1 (by simpa using this)
 ·rintro rfl;rfl
theorem GZ {s:bZ}:s=eX↔ ∀i,i<16->s.at i=void:=by
 constructor
 ·rintro rfl i _;exact mV i
 ·intro h;refine Vector.ext fun i hi=>?_
  have:=h i hi;unfold bZ.at at this;simp only[eX,Vector.getElem_replicate];rw[<-this];simp[hi]
theorem FV {s:Bytes}:s=gF↔ ∀i,i<64->s.at i=0:=by
 constructor
 ·rintro rfl i hi
  unfold Bytes.at gF;simp[hi]
 ·intro h;refine Vector.ext fun i hi=>?_
  have:=h i hi;unfold Bytes.at at this;simp only[gF,Vector.getElem_replicate];rw[<-this];simp[hi]
theorem Av:aB void=true/\aD void= -1:=by decide
theorem pP {kind n:Int} (hk:kind≠1) (hn:1<=n) (k:Key):fy kind n k=true↔k=void:=by
 unfold fy;simp only[M8,M9,Bool.or_eq_true];constructor
 ·rintro⟨_,h|h⟩
  ·exact absurd h hk
  ·exact h
 ·rintro rfl
  exact⟨⟨Av.1,by rw[Av.2];omega⟩,.inr rfl⟩
theorem C6 {o:Obj} {b:Bool}:fj o b=true↔(∀i,i<16->o.slots.at i=void)/\(b=true\/∀i,i<64->o.bytes.at i=0)/\o.calls=0:=by
 simp only[fj,M8,M9,Bool.or_eq_true,GZ,FV,and_assoc]
theorem zh {o:Obj} {n:Int} (h1:1<=n) (h2:n<=64) (h3:0<=o.count) (h4:o.count<=4294967295) (h5:0<=o.calls) (h6:o.calls<=4294967295) {b:Bool} (hk:0<=o.kind/\o.kind<=3/\o.kind≠1) (hb:b=decide (o.kind=2)):
  dI o n=fj o b:=by
 rw[Bool.eq_iff_iff,fg,C6];subst hb;constructor
 ·rintro⟨_,_,_,_,_,_,_,_,h,hs,hz⟩
  refine⟨fun i hi=>(pP hk.2.2 h1 _).1 (hs i hi),?_,h.resolve_left hk.2.2⟩
  by_cases h2:o.kind=2
  ·exact .inl (by simp[h2])
  ·exact .inr fun i hi=>(hz i hi).resolve_left fun h=>h.elim hk.2.2 h2
 ·rintro⟨hs,hz,hc⟩
  refine⟨h1,h2,hk.1,hk.2.1,h3,h4,h5,h6,.inr hc,fun i hi=>(pP hk.2.2 h1 _).2 (hs i hi),fun i hi=>?_⟩
  rcases hz with h|h
  ·exact .inl (.inr (by simpa using h))
  ·exact .inr (h i hi)
theorem zk {o:Obj} {n:Int} (h1:1<=n) (h2:n<=64) (h3:0<=o.count) (h4:o.count<=4294967295) (h5:0<=o.calls) (h6:o.calls<=4294967295) (hk:o.kind=1):dI o n=jy o n 16:=by
 rw[Bool.eq_iff_iff,fg];simp only[jy,List.all_eq_true,List.mem_range,hk,fy,M8,decide_true,Bool.true_or,and_true];constructor
 ·rintro⟨_,_,_,_,_,_,_,_,_,hs,_⟩
  exact fun i hi=>hs i hi
 ·intro hs;exact⟨h1,h2,by omega,by omega,h3,h4,h5,h6,.inl trivial,fun i hi=>hs i hi,fun i hi=> .inl (.inl trivial)⟩
theorem CE {o:Obj} {n g:Int}:(jy o n g&&decide (aY (o.slots.at g.toNat)=0)&&(!aW (o.slots.at g.toNat)||decide (dV (o.slots.at g.toNat)<n)))=
  (jy o n g&&(aB (o.slots.at g.toNat)&&(!aW (o.slots.at g.toNat)||decide ((o.slots.at g.toNat).oid<n)))):=by
 unfold aY dV;cases aB (o.slots.at g.toNat)<;>cases aW (o.slots.at g.toNat)<;>simp
theorem Ew {o:Obj} {n g:Int} (h0:0<=g) (hn:1<=n):(jy o n g&&decide (aY (o.slots.at g.toNat)=0)&&(!aW (o.slots.at g.toNat)||decide (dV (o.slots.at g.toNat)<n)))=jy o n (g+1):=by
 rw[CE];unfold jy;rw[show(g+1).toNat=g.toNat+1 by omega,List.range_succ,List.all_append]
 simp only[List.all_cons,List.all_nil,Bool.and_true];congr 1
 unfold aD aW;cases aB (o.slots.at g.toNat)
 ·rfl
 ·cases bE (o.slots.at g.toNat).kind
  ·simp;omega
  ·simp
end Go.Sx
namespace Go.Proofs.Ytmfbohanboiklaa
open Go.Sx
set_option maxRecDepth 100000
theorem Gs (o:Sx.Obj) (b:Bool):
 (xF o.slots eX&&(b||wu o.bytes gF)&&decide (o.calls=0))=fj o b:=by
 unfold fj xF wu;rfl
theorem Fl:bW Try.prog 46 IZ:=
 oU tf C4 (fun _ _=>rfl) fun o b _ _=>aL (inl:=bw) (ann:=bY) az (Gs o b) (by kernel_rfl)
theorem Cl (o:Sx.Obj) (n:Int):
 ((decide (n<1)||decide (64<n)||decide (o.kind<0)||decide (3<o.kind)||decide (o.count<0)||
             decide (4294967295<o.count)||
            decide (o.calls<0)||
           decide (4294967295<o.calls)||
    !decide (o.kind=1)&& !decide (o.calls=0))=
    true->
   2=bh o n)/\
   ((decide (n<1)||decide (64<n)||decide (o.kind<0)||decide (3<o.kind)||decide (o.count<0)||
              decide (4294967295<o.count)||
             decide (o.calls<0)||
      decide (4294967295<o.calls)||
      !decide (o.kind=1)&& !decide (o.calls=0))=
     false->
     (∃g,vF o n g/\n=n/\o.kind=o.kind/\0=g/\o=o)/\
      ∀(g:Int),
       vF o n g->
        (decide (g<16)=true->
          (0<=g/\g< ↑16)/\
           ((!!decide (aY (o.slots.at g.toNat)=0))=true->0<=g/\g< ↑16)/\
             ((!decide (o.kind=1)&&
                !(!decide (aY (o.slots.at g.toNat)=0)||
                  decide (n<=aD (o.slots.at g.toNat))))=
                true->
               0<=g/\g< ↑16)/\
               ((!decide (aY (o.slots.at g.toNat)=0)||decide (n<=aD (o.slots.at g.toNat))||
                  !decide (o.kind=1)&& !Fh (o.slots.at g.toNat) void)=
                  true->
                 2=bh o n)/\
                 ((!decide (aY (o.slots.at g.toNat)=0)||decide (n<=aD (o.slots.at g.toNat))||
                    !decide (o.kind=1)&& !Fh (o.slots.at g.toNat) void)=
                   false->
                   aP IntKind.i64 (g+1)/\
                    ∃g',
                     vF o n g'/\
                      (16-g').toNat<(16-g).toNat/\n=n/\o.kind=o.kind/\g+1=g'/\o=o))/\
         (decide (g<16)=false->
          (∃g,vn o n g/\n=n/\o.kind=o.kind/\0=g/\o=o)/\
           ∀(g:Int),
            vn o n g->
             (decide (g<64)=true->
               ((!decide (o.kind=1)&& !decide (o.kind=2))=true->0<=g/\g< ↑64)/\
                 ((!decide (o.kind=1)&& !decide (o.kind=2)&&
                    !decide (Ge (o.bytes.at g.toNat)=0))=
                    true->
                   2=bh o n)/\
                   ((!decide (o.kind=1)&& !decide (o.kind=2)&&
                      !decide (Ge (o.bytes.at g.toNat)=0))=
                     false->
                     aP IntKind.i64 (g+1)/\
                      ∃g',
                       vn o n g'/\
                        (64-g').toNat<(64-g).toNat/\
                         n=n/\o.kind=o.kind/\g+1=g'/\o=o))/\
              (decide (g<64)=false->0=bh o n))):=by
 refine⟨fun h=>j3 fun hh=>?_,fun h=>⟨⟨0,⟨by omega,by omega,fun j hj=>by omega⟩,rfl,rfl,rfl,rfl⟩,fun g hg=>⟨fun hlt=>?_,fun hge=>?_⟩⟩⟩
 ·have:=fg.1 hh;simp only[Bool.or_eq_true,M8,Bool.not_eq_true',M9,decide_eq_false_iff_not]at h;omega
 ·obtain⟨g0,g1,g2⟩:=hg;have hlt:=Nc hlt;rw[AD];refine⟨⟨g0,by omega⟩,fun _=>⟨g0,by omega⟩,fun _=>⟨g0,by omega⟩,fun hbad=>j3 fun hh=>?_,fun hok=>⟨?_,g+1,⟨by omega,by omega,fun j hj=>?_⟩,by omega,rfl,rfl,rfl,rfl⟩⟩
  ·have:=(fg.1 hh).2.2.2.2.2.2.2.2.2.1 g.toNat (by omega)
   rw[this]at hbad;simp at hbad
  ·simp only[aP,bC];omega
  ·by_cases e:(j:Int)<g
   ·exact g2 j e
   ·have:j=g.toNat:=by omega
    subst this;simpa using hok
 ·obtain⟨g0,g1,g2⟩:=hg;have hge:¬g<16:=Nb hge;refine⟨⟨0,⟨by omega,by omega,fun j hj=>g2 j (by omega),fun j hj=>by omega⟩,rfl,rfl,rfl,rfl⟩,fun g hg=>⟨fun hlt=>?_,fun hge=>sB ?_⟩⟩
  ·obtain⟨k0,k1,k2,k3⟩:=hg;have hlt:=Nc hlt;simp only[GX];refine⟨fun _=>⟨k0,by omega⟩,fun hbad=>j3 fun hh=>?_,fun hok=>⟨?_,g+1,⟨by omega,by omega,k2,fun j hj=>?_⟩,by omega,by simp⟩⟩
   ·have:=(fg.1 hh).2.2.2.2.2.2.2.2.2.2 g.toNat (by omega)
    simp only[M8,Bool.not_eq_true',decide_eq_false_iff_not]at hbad;grind
   ·simp only[aP,bC];omega
   ·by_cases e:(j:Int)<g
    ·exact k3 j e
    ·have:j=g.toNat:=by omega
     subst this;simp only[Bool.and_eq_false_iff,Bool.not_eq_false',M9]at hok;grind
  ·obtain⟨k0,k1,k2,k3⟩:=hg;have hge:¬g<64:=Nb hge;simp only[Bool.or_eq_false_iff,Bool.and_eq_false_iff,Bool.not_eq_false',M9,decide_eq_false_iff_not]at h;refine fg.2 ⟨by omega,by omega,by omega,by omega,by omega,by omega,by omega,by omega,by omega,k2,fun i hi=>?_⟩
   have:=k3 i (by omega)
   grind
theorem Et:bW Try.prog 43 D5:=
 oU tf (fD .i64) (fun _ _=>rfl) fun o n _ _=>aL (inl:=bw) (ann:=(kg [(43,5,MN [1,2,5] 6 (vF o n) 16),(43,10,MN [1,2,5] 7 (vn o n) 64)])) (an oy (an jf az)) (Cl o n) (by kernel_rfl)
theorem Gn (o:Sx.Obj) (n:Int):
 ((decide (n<1)||decide (64<n)||decide (o.count<0)||decide (4294967295<o.count)||
           decide (o.calls<0)||
    decide (4294967295<o.calls))=
    true->
   2=bh o n)/\
   ((decide (n<1)||decide (64<n)||decide (o.count<0)||decide (4294967295<o.count)||
      decide (o.calls<0)||
      decide (4294967295<o.calls))=
     false->
     (decide (o.kind=0)=true->
       ((!fj o false)=true->2=bh o n)/\((!fj o false)=false->0=bh o n))/\
      (decide (o.kind=0)=false->
       (decide (o.kind=3)=true->
         ((!fj o false)=true->2=bh o n)/\((!fj o false)=false->0=bh o n))/\
        (decide (o.kind=3)=false->
         (decide (o.kind=2)=true->
           ((!fj o true)=true->2=bh o n)/\((!fj o true)=false->0=bh o n))/\
          (decide (o.kind=2)=false->
           (decide (o.kind=1)=true->
             (∃g,vC g/\n=n/\true=jy o n g/\o.slots=o.slots/\0=g/\o=o)/\
              ∀(g:Int),
               vC g->
                (decide (g<16)=true->
                  (0<=g/\g< ↑16)/\
                   aP IntKind.i64 (g+1)/\
                    ∃g',
                     vC g'/\
                      (16-g').toNat<(16-g).toNat/\
                       n=n/\
                        (jy o n g&&decide (aY (o.slots.at g.toNat)=0)&&
                           (!aW (o.slots.at g.toNat)||
                            decide (dV (o.slots.at g.toNat)<n)))=
                          jy o n g'/\
                         o.slots=o.slots/\g+1=g'/\o=o)/\
                 (decide (g<16)=false->
                  ((!jy o n g)=true->2=bh o n)/\((!jy o n g)=false->0=bh o n)))/\
            (decide (o.kind=1)=false->2=bh o n))))):=by
 refine⟨fun h=>j3 fun hh=>?_,fun h=>?_⟩
 ·have:=fg.1 hh;simp only[Bool.or_eq_true,M9]at h;omega
 ·simp only[Bool.or_eq_false_iff,decide_eq_false_iff_not]at h
  have hb:∀(b:Bool),(0<=o.kind/\o.kind<=3/\o.kind≠1)->b=decide (o.kind=2)->((!fj o b)=true->2=bh o n)/\((!fj o b)=false->0=bh o n):=fun b h1 h2=>by
   have he:=zh (o:=o) (n:=n) (b:=b) (by omega) (by omega) (by omega) (by omega) (by omega) (by omega) h1 h2
   exact⟨fun hn=>j3 (by rw[he];simpa using hn),fun hy=>sB (by rw[he];simpa using hy)⟩
  refine⟨fun h0=>?_,fun h0=>⟨fun h3=>?_,fun h3=>⟨fun h2=>?_,fun h2=>⟨fun h1=>⟨⟨0,⟨by omega,by omega⟩,rfl,rfl,rfl,rfl,rfl⟩,fun g hg=>⟨fun hlt=>?_,fun hge=>?_⟩⟩,fun h1=>j3 fun hh=>?_⟩⟩⟩⟩
  ·have h0:=Nc h0;exact hb false (by omega) (by simp[h0])
  ·have h3:=Nc h3;exact hb false (by omega) (by simp[h3])
  ·have h2:=Nc h2;exact hb true (by omega) (by simp[h2])
  ·obtain⟨g0,g1⟩:=hg;have hlt:=Nc hlt;refine⟨⟨g0,by omega⟩,by simp only[aP,bC];omega,g+1,⟨by omega,by omega⟩,by omega,rfl,Ew g0 (by omega),rfl,rfl,rfl⟩
  ·obtain⟨g0,g1⟩:=hg;have hge:¬g<16:=Nb hge;have h1:=Nc h1;have e:g=16:=by omega
   subst e;have he:=zk (o:=o) (n:=n) (by omega) (by omega) (by omega) (by omega) (by omega) (by omega) h1
   exact⟨fun hn=>j3 (by rw[he];simpa using hn),fun hy=>sB (by rw[he];simpa using hy)⟩
  ·have:=fg.1 hh;have h0:¬o.kind=0:=Nb h0;have h1:¬o.kind=1:=Nb h1;have h2:¬o.kind=2:=Nb h2;have h3:¬o.kind=3:=Nb h3;omega
theorem vI:bW Try.prog 25 D5:=
 oU tf (fD .i64) (fun _ _=>rfl) fun o n _ _=>aL (inl:=bw) (ann:=(kg [(25,12,Jw [1,2,51] (fun g=> [(52,.it .i64 g),(5,.bo (jy o n g))]) vC 16)])) (an Fl (an qK (an jz az))) (Gn o n) (by kernel_rfl)
end Go.Proofs.Ytmfbohanboiklaa
