import Derived.Test.YtghpaegglbbocaaGreatSxF
set_option linter.unusedSimpArgs false
set_option linter.unusedVariables false
namespace Go.Sx
def dV (h:Bool) (n m:Int):Bool:=if h then decide (0<=n)&&decide (n<=m)else decide (n=0)
def cA (n:Int):Bool:=decide (2<=n)&&decide (n<=7)
def mb (n:Int):Bool:=decide (n=2)||decide (n=3)
def eI (n:Int):Bool:=decide (n=7)
def gY (n:Int):Bool:=decide (n=1)||decide (n=6)
def cm (n:Int):Int:=if n=2 then 7 else if n=3 then 1 else 0
def aB (k:Key):Bool:=
 decide (0<=k.kind)&&decide (k.kind<=10)&&decide (0<=k.rights)&&decide (k.rights<=cm k.kind)&&(gY k.kind||decide (k.value=0))&&
 dV (cA k.kind) k.oid 63&&dV (cA k.kind) k.count 4294967295&&dV (eI k.kind) k.call 4294967295
def bf (k:Key):Int:=if aB k then 0 else 2
def bn (k:Key):Int:=if aB k&&cA k.kind then k.oid else -1
def gZ (k:Key):Int:=if bn k<0 then 0 else if k.kind=3 then 2 else 1
def ca (k:Key) (o:Obj):Bool:=
 aB k&&(decide (bn k<0)||(decide (o.kind=gZ k)&&decide (o.count=k.count)&&(!decide (k.kind=7)||decide (o.calls=k.call))))
def Nu (k:Key):Bool:=decide (0<=k.kind)&&decide (k.kind<=10)
def lg (n:Nat):ByteArray:=
 match n with
 |0=> "void".toUTF8
 |1=> "number".toUTF8
 |2=> "node".toUTF8
 |3=> "page".toUTF8
 |4=> "bank".toUTF8
 |5=> "proc".toUTF8
 |6=> "start".toUTF8
 |7=> "resume".toUTF8
 |8=> "discrim".toUTF8
 |9=> "clock".toUTF8
 |10=> "check".toUTF8
 |_=>ByteArray.empty
def kd (s:ByteArray) (a b c d:Bool) (m w:Int):V:= .ag [.st s,.cb a,.cb b,.cb c,.cb d,.ci .i64 m,.ci .i64 w]
def yU:V:= .ag [kd (lg 0) false false false false 0 0,kd (lg 1) false false false true 0 0,kd (lg 2) true true false false 7 1,kd (lg 3) true true false false 1 2,
 kd (lg 4) true false false false 0 1,kd (lg 5) true false false false 0 1,kd (lg 6) true false false true 0 1,kd (lg 7) true false true false 0 1,
 kd (lg 8) false false false false 0 0,kd (lg 9) false false false false 0 0,kd (lg 10) false false false false 0 0]
def uk (k:Key):ByteArray:=if Nu k then lg k.kind.toNat else ByteArray.empty
def pq (n:Int):Int:=if n=3 then 2 else if 2<=n/\n<=7 then 1 else 0
def Gm:Ct:=Rw toBool (rI .i64) (rI .i64) fun h n m=> .bo (dV h n m)
def P9:Ct:=Nn rK fun k=> .tp [.ag [.st (uk k),.bo (cA k.kind),.bo (mb k.kind),.bo (eI k.kind),.bo (gY k.kind),.it .i64 (cm k.kind),.it .i64 (pq k.kind)],.bo (aB k)]
def Qr:Ct:=Nn (rI .i64) fun n=> .tp [.bo (cA n),.bo (mb n),.bo (eI n),.bo (gY n)]
def Nt:Ct:=Nn rK fun k=> .it .i64 (bf k)
def aU (k:Key):Bool:=aB k&&cA k.kind
def bW (k:Key):Int:=if aU k then k.oid else 0
def Ge:Ct:=Nn rK fun k=> .tp [.it .i64 (bW k),.bo (aU k)]
def Fk:Ct:=Nn rK fun k=> .it .i64 (bn k)
def Fs:Ct:=MX rK rO fun k o=> .bo (ca k o)
theorem wrap_i64 {n:Int} (h:cy .i64 n):IntKind.wrap .i64 n=n:=by
 have:=h;simp only[cy]at this;unfold IntKind.wrap;simp[IntKind.bits,IntKind.signed];omega
theorem pO {r:Int} (j:Nat) (hj:j<63) (h0:0<=r) (h1:r<=9223372036854775807):aO .andNot .i64 r ((2^j-1:Nat):Int)=0↔r<2^j:=by
 obtain⟨n,rfl⟩:=Int.eq_ofNat_of_zero_le h0;have hn:n<2^64:=by omega
 have hbit:∀i,(BitVec.ofInt 64 (n:Int)).getLsbD i=n.testBit i:=by
  intro i;rw[BitVec.ofInt_natCast,BitVec.getLsbD_ofNat];by_cases hi:i<64
  ·simp[hi]
  ·rw[Nat.testBit_lt_two_pow (Nat.lt_of_lt_of_le hn (Nat.pow_le_pow_right (by omega) (by omega)))];simp
 have hx:(BitVec.ofInt 64 (n:Int) &&& ~~~BitVec.ofInt 64 ((2^j-1:Nat):Int)).toNat=0↔n<2^j:=by
  constructor
  ·intro h;refine Nat.lt_pow_two_of_testBit _ fun i hi=>?_
   rcases Nat.lt_or_ge i 64 with h64|h64
   ·have h2:(BitVec.ofInt 64 (n:Int) &&& ~~~BitVec.ofInt 64 ((2^j-1:Nat):Int)).getLsbD i=false:=by
     rw[BitVec.getLsbD,h];simp
    rw[BitVec.getLsbD_and,hbit,BitVec.getLsbD_not,BitVec.ofInt_natCast,BitVec.getLsbD_ofNat,Nat.testBit_two_pow_sub_one]at h2;simp only[h64,decide_true,Bool.true_and,show¬i<j by omega,decide_false,Bool.not_false,Bool.and_true]at h2
    exact h2
   ·exact Nat.testBit_lt_two_pow (Nat.lt_of_lt_of_le hn (Nat.pow_le_pow_right (by omega) h64))
  ·intro h
   have:BitVec.ofInt 64 (n:Int) &&& ~~~BitVec.ofInt 64 ((2^j-1:Nat):Int)=0#64:=by
    refine BitVec.eq_of_getLsbD_eq fun i hi=>?_
    rw[BitVec.getLsbD_and,hbit,BitVec.getLsbD_not,BitVec.ofInt_natCast,BitVec.getLsbD_ofNat,Nat.testBit_two_pow_sub_one];by_cases hij:i<j
    ·simp[hij,hi]
    ·rw[Nat.testBit_lt_two_pow (Nat.lt_of_lt_of_le h (Nat.pow_le_pow_right (by omega) (by omega)))];simp
   rw[this];rfl
 have hle:(BitVec.ofInt 64 (n:Int) &&& ~~~BitVec.ofInt 64 ((2^j-1:Nat):Int)).toNat<=n:=by
  rw[BitVec.toNat_and];refine Nat.le_trans Nat.and_le_left ?_;rw[BitVec.ofInt_natCast,BitVec.toNat_ofNat];exact Nat.mod_le _ _
 have hp:((2^j:Nat):Int)=(2:Int)^j:=by simp
 change IntKind.wrap .i64 (((BitVec.ofInt 64 (n:Int) &&& ~~~BitVec.ofInt 64 ((2^j-1:Nat):Int)).toNat:Nat):Int)=0↔_
 generalize (BitVec.ofInt 64 (n:Int) &&& ~~~BitVec.ofInt 64 ((2^j-1:Nat):Int)).toNat=x at *
 rw[wrap_i64 (by simp only[cy];omega),<-hp]
 omega
theorem Ml {r:Int} (h0:0<=r) (h1:r<=9223372036854775807):aO .andNot .i64 r 7=0↔r<=7:=by
 have:=pO 3 (by omega) h0 h1
 rw[show((2^3-1:Nat):Int)=7 from rfl,show(2:Int)^3=8 from rfl]at this;rw[this];omega
theorem Ky {r:Int} (h0:0<=r) (h1:r<=9223372036854775807):aO .andNot .i64 r 1=0↔r<=1:=by
 have:=pO 1 (by omega) h0 h1
 rw[show((2^1-1:Nat):Int)=1 from rfl,show(2:Int)^1=2 from rfl]at this;rw[this];omega
theorem Lb {r:Int} (h0:0<=r) (h1:r<=9223372036854775807):aO .andNot .i64 r 0=0↔r<=0:=by
 have:=pO 0 (by omega) h0 h1
 rw[show((2^0-1:Nat):Int)=0 from rfl,show(2:Int)^0=1 from rfl]at this;rw[this];omega
theorem JI {r m:Int} {b:Bool} (h:0<=r->(b=decide (r<=m))):(decide (0<=r)&&b)=(decide (0<=r)&&decide (r<=m)):=by
 by_cases h0:0<=r
 ·rw[h h0]
 ·simp[h0]
end Go.Sx
namespace Go.Proofs.YtghpaegglbbocaaGreat
open Go.Sx
set_option maxRecDepth 100000
theorem D8 (h:Bool) (n m:Int):
 (h&&decide (0<=n)&&decide (n<=m)|| !h&&decide (n=0))=dV h n m:=by
 unfold dV;cases h<;>simp
theorem EN:cW Tryz.prog 131 Gm:=
 Hs Ho (fF .i64) (fF .i64) (fun _ _ _=>rfl) fun h n m _ _ _=>bh (inl:=bM) (ann:=aL) ak (D8 h n m) (by kernel_rfl)
theorem FX:cW Tryz.prog 130 (PO yU):=
 PF rfl (bh (inl:=bM) (ann:=aL) ak (G:=yU=yU) rfl (by kernel_rfl):ai _ _ _ _ (fun v _=>v=yU) (fun _ _=>False))
theorem N7 (k:Key) (hk:k.wf):
 ((decide (k.kind<0)||decide (10<k.kind))=true->
   {data:= {toList:= []}}=uk k/\
    false=cA k.kind/\
     false=mb k.kind/\
      false=eI k.kind/\false=gY k.kind/\0=cm k.kind/\0=pq k.kind/\false=aB k)/\
   ((decide (k.kind<0)||decide (10<k.kind))=false->
     (0<=k.kind/\k.kind< ↑11)/\
      aq [lg 0,lg 1,lg 2,lg 3,lg 4,lg 5,lg 6,lg 7,lg 8,lg 9,lg 10] k.kind.toNat
          {data:= {toList:= []}}=
        uk k/\
       aq [false,false,true,true,true,true,true,true,false,false,false] k.kind.toNat false=
         cA k.kind/\
        aq [false,false,true,true,false,false,false,false,false,false,false] k.kind.toNat false=
          mb k.kind/\
         aq [false,false,false,false,false,false,false,true,false,false,false] k.kind.toNat false=
           eI k.kind/\
          aq [false,true,false,false,false,false,true,false,false,false,false] k.kind.toNat false=
            gY k.kind/\
           aq [0,0,7,1,0,0,0,0,0,0,0] k.kind.toNat 0=cm k.kind/\
            aq [0,0,1,2,1,1,1,1,0,0,0] k.kind.toNat 0=pq k.kind/\
             (dV
                (aq [false,false,true,true,true,true,true,true,false,false,false]
                 k.kind.toNat false)
                k.oid 63&&
                dV
                 (aq [false,false,true,true,true,true,true,true,false,false,false]
                  k.kind.toNat false)
                 k.count 4294967295&&
                dV
                 (aq [false,false,false,false,false,false,false,true,false,false,false]
                  k.kind.toNat false)
                 k.call 4294967295&&
                decide (0<=k.rights)&&
                decide
                 (aO BinOp.andNot IntKind.i64 k.rights
                   (aq [0,0,7,1,0,0,0,0,0,0,0] k.kind.toNat 0)=
                  0)&&
               (aq [false,true,false,false,false,false,true,false,false,false,false] k.kind.toNat
                 false||
                decide (k.value=0)))=
              aB k):=by
 obtain⟨kind,oid,count,call,rights,value⟩:=k;have hr:rights<=9223372036854775807:=hk.2.2.2.2.1.2;simp only;have he:(ByteArray.empty:ByteArray)= {data:= {toList:= []}}:=rfl;refine⟨fun h=>?_,fun h=>?_⟩
 ·simp only[Bool.or_eq_true,Ti]at h;refine⟨?_,?_,?_,?_,?_,?_,?_,?_⟩<;>simp only[uk,Nu,cA,mb,eI,gY,cm,pq,aB]<;>grind
 ·simp only[Bool.or_eq_false_iff,decide_eq_false_iff_not]at h;have hb:∀m,(0<=rights->(decide (aO .andNot .i64 rights m=0))=decide (rights<=m))->(decide (0<=rights)&&decide (aO .andNot .i64 rights m=0))=(decide (0<=rights)&&decide (rights<=m)):=fun m hm=>JI hm
  have h7:=hb 7 fun h0=>by rw[decide_eq_decide];exact Ml h0 hr
  have h1:=hb 1 fun h0=>by rw[decide_eq_decide];exact Ky h0 hr
  have h0:=hb 0 fun h0=>by rw[decide_eq_decide];exact Lb h0 hr
  have hc:kind=0\/kind=1\/kind=2\/kind=3\/kind=4\/kind=5\/kind=6\/kind=7\/kind=8\/kind=9\/kind=10:=by omega
  rcases hc with rfl|rfl|rfl|rfl|rfl|rfl|rfl|rfl|rfl|rfl|rfl<;>
   refine⟨⟨by decide,by decide⟩,rfl,rfl,rfl,rfl,rfl,rfl,rfl,?_⟩<;>
   simp only[aq,aB,cA,gY,eI,cm,Int.reduceToNat,List.getD_cons_zero,List.getD_cons_succ,Bool.and_assoc]<;>
   simp+decide [dV]<;>grind
theorem vZ:cW Tryz.prog 56 P9:=
 p5 fO (fun _=>rfl) fun k hk=>bh (inl:=bM) (ann:=aL) (ab EN (ab FX ak)) (N7 k hk) (by kernel_rfl)
theorem LH (k:Key) (hk:k.wf):
 ((!aB k)=true->2=bf k)/\((!aB k)=false->0=bf k):=by
 unfold bf;cases aB k<;>simp
theorem ia:cW Tryz.prog 33 Nt:=
 p5 fO (fun _=>rfl) fun k hk=>bh (inl:=bM) (ann:=aL) (ab vZ ak) (LH k hk) (by kernel_rfl)
theorem DW (k:Key) (hk:k.wf):
 ((!aB k|| !cA k.kind)=true->0=bW k/\false=aU k)/\
   ((!aB k|| !cA k.kind)=false->k.oid=bW k/\true=aU k):=by
 unfold bW aU;cases aB k<;>cases cA k.kind<;>simp
theorem dX:cW Tryz.prog 32 Ge:=
 p5 fO (fun _=>rfl) fun k hk=>bh (inl:=bM) (ann:=aL) (ab vZ ak) (DW k hk) (by kernel_rfl)
theorem Cn (k:Key) (o:Sx.Obj) (hk:k.wf):
 ((!aB k)=true->false=ca k o)/\
   ((!aB k)=false->
     ((!cA k.kind)=true->true=ca k o)/\
       ((!cA k.kind)=false->
         (decide (o.kind=pq k.kind)&&decide (o.count=k.count)&&
           (!eI k.kind||decide (o.calls=k.call)))=
          ca k o)):=by
 cases hok:aB k
 ·simp[ca,hok]
 ·have h0:cA k.kind=true->0<=k.oid:=fun h=>by
   simp only[aB,dV,h,if_true,Th,Ti]at hok;omega
  simp only[ca,gZ,bn,pq,eI,hok,Bool.true_and];simp only[cA]at *;grind
theorem vW:cW Tryz.prog 57 Fs:=
 oI fO xt (fun _ _=>rfl) fun k o hk _=>bh (inl:=bM) (ann:=aL) (ab vZ ak) (Cn k o hk) (by kernel_rfl)
theorem NH (n:Int):
 (decide (2<=n)&&decide (n<=7))=cA n/\
  (decide (n=2)||decide (n=3))=mb n/\
   decide (n=7)=eI n/\(decide (n=1)||decide (n=6))=gY n:=by
 exact⟨rfl,rfl,rfl,rfl⟩
theorem GY:cW Tryz.prog 28 Qr:=
 p5 (fF .i64) (fun _=>rfl) fun n _=>bh (inl:=bM) (ann:=aL) ak (NH n) (by kernel_rfl)
theorem K9 (k:Key) (hk:k.wf):
 (mb k.kind=true->
   (decide (k.kind=3)=true->
     ((decide (k.kind<0)||decide (10<k.kind)||decide (k.rights<0)||decide (1<k.rights)||
        !gY k.kind&& !decide (k.value=0))=
        true->
       2=bf k)/\
       ((decide (k.kind<0)||decide (10<k.kind)||decide (k.rights<0)||decide (1<k.rights)||
          !gY k.kind&& !decide (k.value=0))=
         false->
         ((cA k.kind&&
            (decide (k.oid<0)||decide (64<=k.oid)||decide (k.count<0)||
             decide (4294967295<k.count))||
               !cA k.kind&&(!decide (k.oid=0)|| !decide (k.count=0)))=
            true->
           2=bf k)/\
           ((cA k.kind&&
                (decide (k.oid<0)||decide (64<=k.oid)||decide (k.count<0)||
                 decide (4294967295<k.count))||
              !cA k.kind&&(!decide (k.oid=0)|| !decide (k.count=0)))=
             false->
             ((eI k.kind&&(decide (k.call<0)||decide (4294967295<k.call))||
                  !eI k.kind&& !decide (k.call=0))=
                true->
               2=bf k)/\
               ((eI k.kind&&(decide (k.call<0)||decide (4294967295<k.call))||
                  !eI k.kind&& !decide (k.call=0))=
                 false->
                 0=bf k))))/\
    (decide (k.kind=3)=false->
     ((decide (k.kind<0)||decide (10<k.kind)||decide (k.rights<0)||decide (7<k.rights)||
        !gY k.kind&& !decide (k.value=0))=
        true->
       2=bf k)/\
       ((decide (k.kind<0)||decide (10<k.kind)||decide (k.rights<0)||decide (7<k.rights)||
          !gY k.kind&& !decide (k.value=0))=
         false->
         ((cA k.kind&&
            (decide (k.oid<0)||decide (64<=k.oid)||decide (k.count<0)||
             decide (4294967295<k.count))||
               !cA k.kind&&(!decide (k.oid=0)|| !decide (k.count=0)))=
            true->
           2=bf k)/\
           ((cA k.kind&&
                (decide (k.oid<0)||decide (64<=k.oid)||decide (k.count<0)||
                 decide (4294967295<k.count))||
              !cA k.kind&&(!decide (k.oid=0)|| !decide (k.count=0)))=
             false->
             ((eI k.kind&&(decide (k.call<0)||decide (4294967295<k.call))||
                  !eI k.kind&& !decide (k.call=0))=
                true->
               2=bf k)/\
               ((eI k.kind&&(decide (k.call<0)||decide (4294967295<k.call))||
                  !eI k.kind&& !decide (k.call=0))=
                 false->
                 0=bf k)))))/\
  (mb k.kind=false->
   (decide (k.kind=3)=true->
     ((decide (k.kind<0)||decide (10<k.kind)||decide (k.rights<0)||decide (1<k.rights)||
        !gY k.kind&& !decide (k.value=0))=
        true->
       2=bf k)/\
       ((decide (k.kind<0)||decide (10<k.kind)||decide (k.rights<0)||decide (1<k.rights)||
          !gY k.kind&& !decide (k.value=0))=
         false->
         ((cA k.kind&&
            (decide (k.oid<0)||decide (64<=k.oid)||decide (k.count<0)||
             decide (4294967295<k.count))||
               !cA k.kind&&(!decide (k.oid=0)|| !decide (k.count=0)))=
            true->
           2=bf k)/\
           ((cA k.kind&&
                (decide (k.oid<0)||decide (64<=k.oid)||decide (k.count<0)||
                 decide (4294967295<k.count))||
              !cA k.kind&&(!decide (k.oid=0)|| !decide (k.count=0)))=
             false->
             ((eI k.kind&&(decide (k.call<0)||decide (4294967295<k.call))||
                  !eI k.kind&& !decide (k.call=0))=
                true->
               2=bf k)/\
               ((eI k.kind&&(decide (k.call<0)||decide (4294967295<k.call))||
                  !eI k.kind&& !decide (k.call=0))=
                 false->
                 0=bf k))))/\
    (decide (k.kind=3)=false->
     ((decide (k.kind<0)||decide (10<k.kind)||decide (k.rights<0)||decide (0<k.rights)||
        !gY k.kind&& !decide (k.value=0))=
        true->
       2=bf k)/\
       ((decide (k.kind<0)||decide (10<k.kind)||decide (k.rights<0)||decide (0<k.rights)||
          !gY k.kind&& !decide (k.value=0))=
         false->
         ((cA k.kind&&
            (decide (k.oid<0)||decide (64<=k.oid)||decide (k.count<0)||
             decide (4294967295<k.count))||
               !cA k.kind&&(!decide (k.oid=0)|| !decide (k.count=0)))=
            true->
           2=bf k)/\
           ((cA k.kind&&
                (decide (k.oid<0)||decide (64<=k.oid)||decide (k.count<0)||
                 decide (4294967295<k.count))||
              !cA k.kind&&(!decide (k.oid=0)|| !decide (k.count=0)))=
             false->
             ((eI k.kind&&(decide (k.call<0)||decide (4294967295<k.call))||
                  !eI k.kind&& !decide (k.call=0))=
                true->
               2=bf k)/\
               ((eI k.kind&&(decide (k.call<0)||decide (4294967295<k.call))||
                  !eI k.kind&& !decide (k.call=0))=
                 false->
                 0=bf k))))):=by
 simp only[bf,aB,dV,cm,mb];rcases Bool.eq_false_or_eq_true (cA k.kind)with hA|hA<;>rcases Bool.eq_false_or_eq_true (eI k.kind)with hB|hB<;>rcases Bool.eq_false_or_eq_true (gY k.kind)with hC|hC<;>simp only[hA,hB,hC,Bool.true_and,Bool.false_and,Bool.not_true,Bool.not_false,Bool.or_false,Bool.false_or,Bool.true_or,if_true,Bool.false_eq_true,if_false,Bool.and_true]<;>grind
theorem tR:cW Tryz.prog 15 Nt:=
 p5 fO (fun _=>rfl) fun k hk=>bh (inl:=bM) (ann:=aL) (ab GY ak) (K9 k hk) (by kernel_rfl)
theorem E2 (k:Key) (hk:k.wf):
 ((!decide (bf k=0)|| !cA k.kind)=true-> -1=bn k)/\
   ((!decide (bf k=0)|| !cA k.kind)=false->k.oid=bn k):=by
 unfold bn bf;cases aB k<;>cases cA k.kind<;>simp
theorem xp:cW Tryz.prog 17 Fk:=
 p5 fO (fun _=>rfl) fun k hk=>bh (inl:=bM) (ann:=aL) (ab GY (ab tR ak)) (E2 k hk) (by kernel_rfl)
end Go.Proofs.YtghpaegglbbocaaGreat
namespace Go.Sx
def gk (kind n:Int) (k:Key):Bool:=aB k&&decide (bn k<n)&&(decide (kind=1)||decide (k=void))
def bx (o:Obj) (n:Int):Bool:=
 decide (1<=n)&&decide (n<=64)&&decide (0<=o.kind)&&decide (o.kind<=3)&&decide (0<=o.count)&&decide (o.count<=4294967295)&&decide (0<=o.calls)&&decide (o.calls<=4294967295)&&
 (decide (o.kind=1)||decide (o.calls=0))&&(List.range 16).all (fun i=>gk o.kind n (o.slots.at i))&&
 (List.range 64).all (fun i=>decide (o.kind=1)||decide (o.kind=2)||decide (o.bytes.at i=0))
def bL (o:Obj) (n:Int):Int:=if bx o n then 0 else 2
def iX (o:Obj) (b:Bool):Bool:=decide (o.slots=fH)&&(b||decide (o.bytes=fx))&&decide (o.calls=0)
def yT (o:Obj) (n:Int) (i:Int):Prop:=0<=i/\i<=16/\∀j:Nat,(j:Int)<i->gk o.kind n (o.slots.at j)=true
def yH (o:Obj) (n:Int) (i:Int):Prop:=0<=i/\i<=64/\(∀j:Nat,j<16->gk o.kind n (o.slots.at j)=true)/\∀j:Nat,(j:Int)<i->(o.kind=1\/o.kind=2\/o.bytes.at j=0)
def ma (o:Obj) (n:Int) (i:Int):Bool:=(List.range i.toNat).all fun j=>aB (o.slots.at j)&&decide (bn (o.slots.at j)<n)
def zj (i:Int):Prop:=0<=i/\i<=16
def NK:Ct:=MX rO toBool fun o b=> .bo (iX o b)
def GH:Ct:=MX rO (rI .i64) fun o n=> .it .i64 (bL o n)
theorem dJ {o:Obj} {n:Int}:bx o n=true↔1<=n/\n<=64/\0<=o.kind/\o.kind<=3/\0<=o.count/\o.count<=4294967295/\0<=o.calls/\o.calls<=4294967295/\
  (o.kind=1\/o.calls=0)/\(∀i,i<16->gk o.kind n (o.slots.at i)=true)/\∀i,i<64->(o.kind=1\/o.kind=2)\/o.bytes.at i=0:=by
 simp only[bx,Th,Ti,Bool.or_eq_true,List.all_eq_true,List.mem_range,and_assoc]
theorem mH {o:Obj} {n:Int} (h:¬bx o n=true):2=bL o n:=by simp[bL,h]
theorem oM {o:Obj} {n:Int} (h:bx o n=true):0=bL o n:=by simp[bL,h]
theorem E7 (kind n:Int) (k:Key):(!decide (bf k=0)||decide (n<=bn k)|| !decide (kind=1)&& !tF k void)= !gk kind n k:=by
 unfold gk bf tF;cases aB k<;>grind
theorem Ll (b:UInt8):decide (MK b=0)=decide (b=0):=by
 rw[decide_eq_decide,MK];constructor
 ·intro h;have:b.toNat=0:=by omega
  exact UInt8.toNat_inj.1 (by simpa using this)
 ·rintro rfl;rfl
theorem CD {s:bV}:s=fH↔ ∀i,i<16->s.at i=void:=by
 constructor
 ·rintro rfl i _;exact vK i
 ·intro h;refine Vector.ext fun i hi=>?_
  have:=h i hi;unfold bV.at at this;simp only[fH,Vector.getElem_replicate];rw[<-this];simp[hi]
theorem CI {s:Bytes}:s=fx↔ ∀i,i<64->s.at i=0:=by
 constructor
 ·rintro rfl i hi
  unfold Bytes.at fx;simp[hi]
 ·intro h;refine Vector.ext fun i hi=>?_
  have:=h i hi;unfold Bytes.at at this;simp only[fx,Vector.getElem_replicate];rw[<-this];simp[hi]
theorem nm:aB void=true/\bn void= -1:=by decide
theorem tj {kind n:Int} (hk:kind≠1) (hn:1<=n) (k:Key):gk kind n k=true↔k=void:=by
 unfold gk;simp only[Th,Ti,Bool.or_eq_true];constructor
 ·rintro⟨_,h|h⟩
  ·exact absurd h hk
  ·exact h
 ·rintro rfl
  exact⟨⟨nm.1,by rw[nm.2];omega⟩,.inr rfl⟩
theorem He {o:Obj} {b:Bool}:iX o b=true↔(∀i,i<16->o.slots.at i=void)/\(b=true\/∀i,i<64->o.bytes.at i=0)/\o.calls=0:=by
 simp only[iX,Th,Ti,Bool.or_eq_true,CD,CI,and_assoc]
theorem BU {o:Obj} {n:Int} (h1:1<=n) (h2:n<=64) (h3:0<=o.count) (h4:o.count<=4294967295) (h5:0<=o.calls) (h6:o.calls<=4294967295) {b:Bool} (hk:0<=o.kind/\o.kind<=3/\o.kind≠1) (hb:b=decide (o.kind=2)):
  bx o n=iX o b:=by
 rw[Bool.eq_iff_iff,dJ,He];subst hb;constructor
 ·rintro⟨_,_,_,_,_,_,_,_,h,hs,hz⟩
  refine⟨fun i hi=>(tj hk.2.2 h1 _).1 (hs i hi),?_,h.resolve_left hk.2.2⟩
  by_cases h2:o.kind=2
  ·exact .inl (by simp[h2])
  ·exact .inr fun i hi=>(hz i hi).resolve_left fun h=>h.elim hk.2.2 h2
 ·rintro⟨hs,hz,hc⟩
  refine⟨h1,h2,hk.1,hk.2.1,h3,h4,h5,h6,.inr hc,fun i hi=>(tj hk.2.2 h1 _).2 (hs i hi),fun i hi=>?_⟩
  rcases hz with h|h
  ·exact .inl (.inr (by simpa using h))
  ·exact .inr (h i hi)
theorem Cv {o:Obj} {n:Int} (h1:1<=n) (h2:n<=64) (h3:0<=o.count) (h4:o.count<=4294967295) (h5:0<=o.calls) (h6:o.calls<=4294967295) (hk:o.kind=1):bx o n=ma o n 16:=by
 rw[Bool.eq_iff_iff,dJ];simp only[ma,List.all_eq_true,List.mem_range,hk,gk,Th,decide_true,Bool.true_or,and_true];constructor
 ·rintro⟨_,_,_,_,_,_,_,_,_,hs,_⟩
  exact fun i hi=>hs i hi
 ·intro hs;exact⟨h1,h2,by omega,by omega,h3,h4,h5,h6,.inl trivial,fun i hi=>hs i hi,fun i hi=> .inl (.inl trivial)⟩
theorem IK {o:Obj} {n g:Int}:(ma o n g&&decide (bf (o.slots.at g.toNat)=0)&&(!aU (o.slots.at g.toNat)||decide (bW (o.slots.at g.toNat)<n)))=
  (ma o n g&&(aB (o.slots.at g.toNat)&&(!aU (o.slots.at g.toNat)||decide ((o.slots.at g.toNat).oid<n)))):=by
 unfold bf bW;cases aB (o.slots.at g.toNat)<;>cases aU (o.slots.at g.toNat)<;>simp
theorem HF {o:Obj} {n g:Int} (h0:0<=g) (hn:1<=n):(ma o n g&&decide (bf (o.slots.at g.toNat)=0)&&(!aU (o.slots.at g.toNat)||decide (bW (o.slots.at g.toNat)<n)))=ma o n (g+1):=by
 rw[IK];unfold ma;rw[show(g+1).toNat=g.toNat+1 by omega,List.range_succ,List.all_append]
 simp only[List.all_cons,List.all_nil,Bool.and_true];congr 1
 unfold bn aU;cases aB (o.slots.at g.toNat)
 ·rfl
 ·cases cA (o.slots.at g.toNat).kind
  ·simp;omega
  ·simp
end Go.Sx
namespace Go.Proofs.YtghpaegglbbocaaGreat
open Go.Sx
set_option maxRecDepth 100000
theorem Mp (o:Sx.Obj) (b:Bool):
 (AR o.slots fH&&(b||AJ o.bytes fx)&&decide (o.calls=0))=iX o b:=by
 unfold iX AR AJ;rfl
theorem LX:cW Tryz.prog 174 NK:=
 oI xt Ho (fun _ _=>rfl) fun o b _ _=>bh (inl:=bM) (ann:=aL) ak (Mp o b) (by kernel_rfl)
theorem HS (o:Sx.Obj) (n:Int):
 ((decide (n<1)||decide (64<n)||decide (o.kind<0)||decide (3<o.kind)||decide (o.count<0)||
             decide (4294967295<o.count)||
            decide (o.calls<0)||
           decide (4294967295<o.calls)||
    !decide (o.kind=1)&& !decide (o.calls=0))=
    true->
   2=bL o n)/\
   ((decide (n<1)||decide (64<n)||decide (o.kind<0)||decide (3<o.kind)||decide (o.count<0)||
              decide (4294967295<o.count)||
             decide (o.calls<0)||
      decide (4294967295<o.calls)||
      !decide (o.kind=1)&& !decide (o.calls=0))=
     false->
     (∃g,yT o n g/\n=n/\o.kind=o.kind/\0=g/\o=o)/\
      ∀(g:Int),
       yT o n g->
        (decide (g<16)=true->
          (0<=g/\g< ↑16)/\
           ((!!decide (bf (o.slots.at g.toNat)=0))=true->0<=g/\g< ↑16)/\
             ((!decide (o.kind=1)&&
                !(!decide (bf (o.slots.at g.toNat)=0)||
                  decide (n<=bn (o.slots.at g.toNat))))=
                true->
               0<=g/\g< ↑16)/\
               ((!decide (bf (o.slots.at g.toNat)=0)||decide (n<=bn (o.slots.at g.toNat))||
                  !decide (o.kind=1)&& !tF (o.slots.at g.toNat) void)=
                  true->
                 2=bL o n)/\
                 ((!decide (bf (o.slots.at g.toNat)=0)||decide (n<=bn (o.slots.at g.toNat))||
                    !decide (o.kind=1)&& !tF (o.slots.at g.toNat) void)=
                   false->
                   aQ IntKind.i64 (g+1)/\
                    ∃g',
                     yT o n g'/\
                      (16-g').toNat<(16-g).toNat/\n=n/\o.kind=o.kind/\g+1=g'/\o=o))/\
         (decide (g<16)=false->
          (∃g,yH o n g/\n=n/\o.kind=o.kind/\0=g/\o=o)/\
           ∀(g:Int),
            yH o n g->
             (decide (g<64)=true->
               ((!decide (o.kind=1)&& !decide (o.kind=2))=true->0<=g/\g< ↑64)/\
                 ((!decide (o.kind=1)&& !decide (o.kind=2)&&
                    !decide (MK (o.bytes.at g.toNat)=0))=
                    true->
                   2=bL o n)/\
                   ((!decide (o.kind=1)&& !decide (o.kind=2)&&
                      !decide (MK (o.bytes.at g.toNat)=0))=
                     false->
                     aQ IntKind.i64 (g+1)/\
                      ∃g',
                       yH o n g'/\
                        (64-g').toNat<(64-g).toNat/\
                         n=n/\o.kind=o.kind/\g+1=g'/\o=o))/\
              (decide (g<64)=false->0=bL o n))):=by
 refine⟨fun h=>mH fun hh=>?_,fun h=>⟨⟨0,⟨by omega,by omega,fun j hj=>by omega⟩,rfl,rfl,rfl,rfl⟩,fun g hg=>⟨fun hlt=>?_,fun hge=>?_⟩⟩⟩
 ·have:=dJ.1 hh;simp only[Bool.or_eq_true,Th,Bool.not_eq_true',Ti,decide_eq_false_iff_not]at h;omega
 ·obtain⟨g0,g1,g2⟩:=hg;have hlt:=Tl hlt;rw[E7];refine⟨⟨g0,by omega⟩,fun _=>⟨g0,by omega⟩,fun _=>⟨g0,by omega⟩,fun hbad=>mH fun hh=>?_,fun hok=>⟨?_,g+1,⟨by omega,by omega,fun j hj=>?_⟩,by omega,rfl,rfl,rfl,rfl⟩⟩
  ·have:=(dJ.1 hh).2.2.2.2.2.2.2.2.2.1 g.toNat (by omega)
   rw[this]at hbad;simp at hbad
  ·simp only[aQ,cy];omega
  ·by_cases e:(j:Int)<g
   ·exact g2 j e
   ·have:j=g.toNat:=by omega
    subst this;simpa using hok
 ·obtain⟨g0,g1,g2⟩:=hg;have hge:¬g<16:=Tk hge;refine⟨⟨0,⟨by omega,by omega,fun j hj=>g2 j (by omega),fun j hj=>by omega⟩,rfl,rfl,rfl,rfl⟩,fun g hg=>⟨fun hlt=>?_,fun hge=>oM ?_⟩⟩
  ·obtain⟨k0,k1,k2,k3⟩:=hg;have hlt:=Tl hlt;simp only[Ll];refine⟨fun _=>⟨k0,by omega⟩,fun hbad=>mH fun hh=>?_,fun hok=>⟨?_,g+1,⟨by omega,by omega,k2,fun j hj=>?_⟩,by omega,by simp⟩⟩
   ·have:=(dJ.1 hh).2.2.2.2.2.2.2.2.2.2 g.toNat (by omega)
    simp only[Th,Bool.not_eq_true',decide_eq_false_iff_not]at hbad;grind
   ·simp only[aQ,cy];omega
   ·by_cases e:(j:Int)<g
    ·exact k3 j e
    ·have:j=g.toNat:=by omega
     subst this;simp only[Bool.and_eq_false_iff,Bool.not_eq_false',Ti]at hok;grind
  ·obtain⟨k0,k1,k2,k3⟩:=hg;have hge:¬g<64:=Tk hge;simp only[Bool.or_eq_false_iff,Bool.and_eq_false_iff,Bool.not_eq_false',Ti,decide_eq_false_iff_not]at h;refine dJ.2 ⟨by omega,by omega,by omega,by omega,by omega,by omega,by omega,by omega,by omega,k2,fun i hi=>?_⟩
   have:=k3 i (by omega)
   grind
theorem Jc:cW Tryz.prog 40 GH:=
 oI xt (fF .i64) (fun _ _=>rfl) fun o n _ _=>bh (inl:=bM) (ann:=(me [(40,5,S3 [1,2,5] 6 (yT o n) 16),(40,10,S3 [1,2,5] 7 (yH o n) 64)])) (ab tR (ab xp ak)) (HS o n) (by kernel_rfl)
theorem LG (o:Sx.Obj) (n:Int):
 ((decide (n<1)||decide (64<n)||decide (o.count<0)||decide (4294967295<o.count)||
           decide (o.calls<0)||
    decide (4294967295<o.calls))=
    true->
   2=bL o n)/\
   ((decide (n<1)||decide (64<n)||decide (o.count<0)||decide (4294967295<o.count)||
      decide (o.calls<0)||
      decide (4294967295<o.calls))=
     false->
     (decide (o.kind=0)=true->
       ((!iX o false)=true->2=bL o n)/\((!iX o false)=false->0=bL o n))/\
      (decide (o.kind=0)=false->
       (decide (o.kind=3)=true->
         ((!iX o false)=true->2=bL o n)/\((!iX o false)=false->0=bL o n))/\
        (decide (o.kind=3)=false->
         (decide (o.kind=2)=true->
           ((!iX o true)=true->2=bL o n)/\((!iX o true)=false->0=bL o n))/\
          (decide (o.kind=2)=false->
           (decide (o.kind=1)=true->
             (∃g,zj g/\n=n/\true=ma o n g/\o.slots=o.slots/\0=g/\o=o)/\
              ∀(g:Int),
               zj g->
                (decide (g<16)=true->
                  (0<=g/\g< ↑16)/\
                   aQ IntKind.i64 (g+1)/\
                    ∃g',
                     zj g'/\
                      (16-g').toNat<(16-g).toNat/\
                       n=n/\
                        (ma o n g&&decide (bf (o.slots.at g.toNat)=0)&&
                           (!aU (o.slots.at g.toNat)||
                            decide (bW (o.slots.at g.toNat)<n)))=
                          ma o n g'/\
                         o.slots=o.slots/\g+1=g'/\o=o)/\
                 (decide (g<16)=false->
                  ((!ma o n g)=true->2=bL o n)/\((!ma o n g)=false->0=bL o n)))/\
            (decide (o.kind=1)=false->2=bL o n))))):=by
 refine⟨fun h=>mH fun hh=>?_,fun h=>?_⟩
 ·have:=dJ.1 hh;simp only[Bool.or_eq_true,Ti]at h;omega
 ·simp only[Bool.or_eq_false_iff,decide_eq_false_iff_not]at h
  have hb:∀(b:Bool),(0<=o.kind/\o.kind<=3/\o.kind≠1)->b=decide (o.kind=2)->((!iX o b)=true->2=bL o n)/\((!iX o b)=false->0=bL o n):=fun b h1 h2=>by
   have he:=BU (o:=o) (n:=n) (b:=b) (by omega) (by omega) (by omega) (by omega) (by omega) (by omega) h1 h2
   exact⟨fun hn=>mH (by rw[he];simpa using hn),fun hy=>oM (by rw[he];simpa using hy)⟩
  refine⟨fun h0=>?_,fun h0=>⟨fun h3=>?_,fun h3=>⟨fun h2=>?_,fun h2=>⟨fun h1=>⟨⟨0,⟨by omega,by omega⟩,rfl,rfl,rfl,rfl,rfl⟩,fun g hg=>⟨fun hlt=>?_,fun hge=>?_⟩⟩,fun h1=>mH fun hh=>?_⟩⟩⟩⟩
  ·have h0:=Tl h0;exact hb false (by omega) (by simp[h0])
  ·have h3:=Tl h3;exact hb false (by omega) (by simp[h3])
  ·have h2:=Tl h2;exact hb true (by omega) (by simp[h2])
  ·obtain⟨g0,g1⟩:=hg;have hlt:=Tl hlt;refine⟨⟨g0,by omega⟩,by simp only[aQ,cy];omega,g+1,⟨by omega,by omega⟩,by omega,rfl,HF g0 (by omega),rfl,rfl,rfl⟩
  ·obtain⟨g0,g1⟩:=hg;have hge:¬g<16:=Tk hge;have h1:=Tl h1;have e:g=16:=by omega
   subst e;have he:=Cv (o:=o) (n:=n) (by omega) (by omega) (by omega) (by omega) (by omega) (by omega) h1
   exact⟨fun hn=>mH (by rw[he];simpa using hn),fun hy=>oM (by rw[he];simpa using hy)⟩
  ·have:=dJ.1 hh;have h0:¬o.kind=0:=Tk h0;have h1:¬o.kind=1:=Tk h1;have h2:¬o.kind=2:=Tk h2;have h3:¬o.kind=3:=Tk h3;omega
theorem yg:cW Tryz.prog 108 GH:=
 oI xt (fF .i64) (fun _ _=>rfl) fun o n _ _=>bh (inl:=bM) (ann:=(me [(108,12,PX [1,2,51] (fun g=> [(52,.it .i64 g),(5,.bo (ma o n g))]) zj 16)])) (ab LX (ab ia (ab dX ak))) (LG o n) (by kernel_rfl)
end Go.Proofs.YtghpaegglbbocaaGreat
