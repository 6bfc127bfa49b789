import Derived.Test.YtlblcfaclmpekaaGreatSxF
set_option linter.unusedSimpArgs false
set_option linter.unusedVariables false
namespace Go.Sx
def eO (h:Bool) (n m:Int):Bool:=if h then decide (0<=n)&&decide (n<=m)else decide (n=0)
def c9 (n:Int):Bool:=decide (2<=n)&&decide (n<=7)
def nC (n:Int):Bool:=decide (n=2)||decide (n=3)
def ft (n:Int):Bool:=decide (n=7)
def jl (n:Int):Bool:=decide (n=1)||decide (n=6)
def ec (n:Int):Int:=if n=2 then 7 else if n=3 then 1 else 0
def aN (k:Key):Bool:=
 decide (0<=k.kind)&&decide (k.kind<=10)&&decide (0<=k.rights)&&decide (k.rights<=ec k.kind)&&(jl k.kind||decide (k.value=0))&&
 eO (c9 k.kind) k.oid 63&&eO (c9 k.kind) k.count 4294967295&&eO (ft k.kind) k.call 4294967295
def bg (k:Key):Int:=if aN k then 0 else 2
def bF (k:Key):Int:=if aN k&&c9 k.kind then k.oid else -1
def gK (k:Key):Int:=if bF k<0 then 0 else if k.kind=3 then 2 else 1
def bL (k:Key) (o:Obj):Bool:=
 aN k&&(decide (bF k<0)||(decide (o.kind=gK k)&&decide (o.count=k.count)&&(!decide (k.kind=7)||decide (o.calls=k.call))))
def Qy (k:Key):Bool:=decide (0<=k.kind)&&decide (k.kind<=10)
def mb (n:Nat):ByteArray:=
 match n with
 |0=> "void".toUTF8
 |1=> "number".toUTF8
 |2=> "node".toUTF8
 |3=> "page".toUTF8
 |4=> "bank".toUTF8
 |5=> "proc".toUTF8
 |6=> "start".toUTF8
 |7=> "resume".toUTF8
 |8=> "discrim".toUTF8
 |9=> "clock".toUTF8
 |10=> "check".toUTF8
 |_=>ByteArray.empty
def kd (s:ByteArray) (a b c d:Bool) (m w:Int):V:= .ag [.st s,.cb a,.cb b,.cb c,.cb d,.ci .i64 m,.ci .i64 w]
def zR:V:= .ag [kd (mb 0) false false false false 0 0,kd (mb 1) false false false true 0 0,kd (mb 2) true true false false 7 1,kd (mb 3) true true false false 1 2,
 kd (mb 4) true false false false 0 1,kd (mb 5) true false false false 0 1,kd (mb 6) true false false true 0 1,kd (mb 7) true false true false 0 1,
 kd (mb 8) false false false false 0 0,kd (mb 9) false false false false 0 0,kd (mb 10) false false false false 0 0]
def vK (k:Key):ByteArray:=if Qy k then mb k.kind.toNat else ByteArray.empty
def qH (n:Int):Int:=if n=3 then 2 else if 2<=n/\n<=7 then 1 else 0
def LI:Ct:=VC toBool (rI .i64) (rI .i64) fun h n m=> .bo (eO h n m)
def UD:Ct:=Qk rK fun k=> .tp [.ag [.st (vK k),.bo (c9 k.kind),.bo (nC k.kind),.bo (ft k.kind),.bo (jl k.kind),.it .i64 (ec k.kind),.it .i64 (qH k.kind)],.bo (aN k)]
def UT:Ct:=Qk (rI .i64) fun n=> .tp [.bo (c9 n),.bo (nC n),.bo (ft n),.bo (jl n)]
def Qs:Ct:=Qk rK fun k=> .it .i64 (bg k)
def aR (k:Key):Bool:=aN k&&c9 k.kind
def bG (k:Key):Int:=if aR k then k.oid else 0
def Mr:Ct:=Qk rK fun k=> .tp [.it .i64 (bG k),.bo (aR k)]
def II:Ct:=Qk rK fun k=> .it .i64 (bF k)
def J9:Ct:=Q8 rK rO fun k o=> .bo (bL k o)
theorem wrap_i64 {n:Int} (h:cg .i64 n):IntKind.wrap .i64 n=n:=by
 have:=h;simp only[cg]at this;unfold IntKind.wrap;simp[IntKind.bits,IntKind.signed];omega
theorem rN {r:Int} (j:Nat) (hj:j<63) (h0:0<=r) (h1:r<=9223372036854775807):aT .andNot .i64 r ((2^j-1:Nat):Int)=0↔r<2^j:=by
 obtain⟨n,rfl⟩:=Int.eq_ofNat_of_zero_le h0;have hn:n<2^64:=by omega
 have hbit:∀i,(BitVec.ofInt 64 (n:Int)).getLsbD i=n.testBit i:=by
  intro i;rw[BitVec.ofInt_natCast,BitVec.getLsbD_ofNat];by_cases hi:i<64
  ·simp[hi]
  ·rw[Nat.testBit_lt_two_pow (Nat.lt_of_lt_of_le hn (Nat.pow_le_pow_right (by omega) (by omega)))];simp
 have hx:(BitVec.ofInt 64 (n:Int) &&& ~~~BitVec.ofInt 64 ((2^j-1:Nat):Int)).toNat=0↔n<2^j:=by
  constructor
  ·intro h;refine Nat.lt_pow_two_of_testBit _ fun i hi=>?_
   rcases Nat.lt_or_ge i 64 with h64|h64
   ·have h2:(BitVec.ofInt 64 (n:Int) &&& ~~~BitVec.ofInt 64 ((2^j-1:Nat):Int)).getLsbD i=false:=by
     rw[BitVec.getLsbD,h];simp
    rw[BitVec.getLsbD_and,hbit,BitVec.getLsbD_not,BitVec.ofInt_natCast,BitVec.getLsbD_ofNat,Nat.testBit_two_pow_sub_one]at h2;simp only[h64,decide_true,Bool.true_and,show¬i<j by omega,decide_false,Bool.not_false,Bool.and_true]at h2
    exact h2
   ·exact Nat.testBit_lt_two_pow (Nat.lt_of_lt_of_le hn (Nat.pow_le_pow_right (by omega) h64))
  ·intro h
   have:BitVec.ofInt 64 (n:Int) &&& ~~~BitVec.ofInt 64 ((2^j-1:Nat):Int)=0#64:=by
    refine BitVec.eq_of_getLsbD_eq fun i hi=>?_
    rw[BitVec.getLsbD_and,hbit,BitVec.getLsbD_not,BitVec.ofInt_natCast,BitVec.getLsbD_ofNat,Nat.testBit_two_pow_sub_one];by_cases hij:i<j
    ·simp[hij,hi]
    ·rw[Nat.testBit_lt_two_pow (Nat.lt_of_lt_of_le h (Nat.pow_le_pow_right (by omega) (by omega)))];simp
   rw[this];rfl
 have hle:(BitVec.ofInt 64 (n:Int) &&& ~~~BitVec.ofInt 64 ((2^j-1:Nat):Int)).toNat<=n:=by
  rw[BitVec.toNat_and];refine Nat.le_trans Nat.and_le_left ?_;rw[BitVec.ofInt_natCast,BitVec.toNat_ofNat];exact Nat.mod_le _ _
 have hp:((2^j:Nat):Int)=(2:Int)^j:=by simp
 change IntKind.wrap .i64 (((BitVec.ofInt 64 (n:Int) &&& ~~~BitVec.ofInt 64 ((2^j-1:Nat):Int)).toNat:Nat):Int)=0↔_
 generalize (BitVec.ofInt 64 (n:Int) &&& ~~~BitVec.ofInt 64 ((2^j-1:Nat):Int)).toNat=x at *
 rw[wrap_i64 (by simp only[cg];omega),<-hp]
 omega
theorem Nr {r:Int} (h0:0<=r) (h1:r<=9223372036854775807):aT .andNot .i64 r 7=0↔r<=7:=by
 have:=rN 3 (by omega) h0 h1
 rw[show((2^3-1:Nat):Int)=7 from rfl,show(2:Int)^3=8 from rfl]at this;rw[this];omega
theorem OY {r:Int} (h0:0<=r) (h1:r<=9223372036854775807):aT .andNot .i64 r 1=0↔r<=1:=by
 have:=rN 1 (by omega) h0 h1
 rw[show((2^1-1:Nat):Int)=1 from rfl,show(2:Int)^1=2 from rfl]at this;rw[this];omega
theorem OR {r:Int} (h0:0<=r) (h1:r<=9223372036854775807):aT .andNot .i64 r 0=0↔r<=0:=by
 have:=rN 0 (by omega) h0 h1
 rw[show((2^0-1:Nat):Int)=0 from rfl,show(2:Int)^0=1 from rfl]at this;rw[this];omega
theorem My {r m:Int} {b:Bool} (h:0<=r->(b=decide (r<=m))):(decide (0<=r)&&b)=(decide (0<=r)&&decide (r<=m)):=by
 by_cases h0:0<=r
 ·rw[h h0]
 ·simp[h0]
end Go.Sx
namespace Go.Proofs.YtlblcfaclmpekaaGreat
open Go.Sx
set_option maxRecDepth 100000
theorem F6 (h:Bool) (n m:Int):
 (h&&decide (0<=n)&&decide (n<=m)|| !h&&decide (n=0))=eO h n m:=by
 unfold eO;cases h<;>simp
theorem Hf:cV Tryz.prog 105 LI:=
 J0 KD (gi .i64) (gi .i64) (fun _ _ _=>rfl) fun h n m _ _ _=>bd (inl:=bS) (ann:=aO) an (F6 h n m) (by kernel_rfl)
theorem Ms:cV Tryz.prog 104 (Tn zR):=
 RF rfl (bd (inl:=bS) (ann:=aO) an (G:=zR=zR) rfl (by kernel_rfl):aj _ _ _ _ (fun v _=>v=zR) (fun _ _=>False))
theorem Ro (k:Key) (hk:k.wf):
 ((decide (k.kind<0)||decide (10<k.kind))=true->
   {data:= {toList:= []}}=vK k/\
    false=c9 k.kind/\
     false=nC k.kind/\
      false=ft k.kind/\false=jl k.kind/\0=ec k.kind/\0=qH k.kind/\false=aN k)/\
   ((decide (k.kind<0)||decide (10<k.kind))=false->
     (0<=k.kind/\k.kind< ↑11)/\
      ai [mb 0,mb 1,mb 2,mb 3,mb 4,mb 5,mb 6,mb 7,mb 8,mb 9,mb 10] k.kind.toNat
          {data:= {toList:= []}}=
        vK k/\
       ai [false,false,true,true,true,true,true,true,false,false,false] k.kind.toNat false=
         c9 k.kind/\
        ai [false,false,true,true,false,false,false,false,false,false,false] k.kind.toNat false=
          nC k.kind/\
         ai [false,false,false,false,false,false,false,true,false,false,false] k.kind.toNat false=
           ft k.kind/\
          ai [false,true,false,false,false,false,true,false,false,false,false] k.kind.toNat false=
            jl k.kind/\
           ai [0,0,7,1,0,0,0,0,0,0,0] k.kind.toNat 0=ec k.kind/\
            ai [0,0,1,2,1,1,1,1,0,0,0] k.kind.toNat 0=qH k.kind/\
             (eO
                (ai [false,false,true,true,true,true,true,true,false,false,false]
                 k.kind.toNat false)
                k.oid 63&&
                eO
                 (ai [false,false,true,true,true,true,true,true,false,false,false]
                  k.kind.toNat false)
                 k.count 4294967295&&
                eO
                 (ai [false,false,false,false,false,false,false,true,false,false,false]
                  k.kind.toNat false)
                 k.call 4294967295&&
                decide (0<=k.rights)&&
                decide
                 (aT BinOp.andNot IntKind.i64 k.rights
                   (ai [0,0,7,1,0,0,0,0,0,0,0] k.kind.toNat 0)=
                  0)&&
               (ai [false,true,false,false,false,false,true,false,false,false,false] k.kind.toNat
                 false||
                decide (k.value=0)))=
              aN k):=by
 obtain⟨kind,oid,count,call,rights,value⟩:=k;have hr:rights<=9223372036854775807:=hk.2.2.2.2.1.2;simp only;have he:(ByteArray.empty:ByteArray)= {data:= {toList:= []}}:=rfl;refine⟨fun h=>?_,fun h=>?_⟩
 ·simp only[Bool.or_eq_true,Xp]at h;refine⟨?_,?_,?_,?_,?_,?_,?_,?_⟩<;>simp only[vK,Qy,c9,nC,ft,jl,ec,qH,aN]<;>grind
 ·simp only[Bool.or_eq_false_iff,decide_eq_false_iff_not]at h;have hb:∀m,(0<=rights->(decide (aT .andNot .i64 rights m=0))=decide (rights<=m))->(decide (0<=rights)&&decide (aT .andNot .i64 rights m=0))=(decide (0<=rights)&&decide (rights<=m)):=fun m hm=>My hm
  have h7:=hb 7 fun h0=>by rw[decide_eq_decide];exact Nr h0 hr
  have h1:=hb 1 fun h0=>by rw[decide_eq_decide];exact OY h0 hr
  have h0:=hb 0 fun h0=>by rw[decide_eq_decide];exact OR h0 hr
  have hc:kind=0\/kind=1\/kind=2\/kind=3\/kind=4\/kind=5\/kind=6\/kind=7\/kind=8\/kind=9\/kind=10:=by omega
  rcases hc with rfl|rfl|rfl|rfl|rfl|rfl|rfl|rfl|rfl|rfl|rfl<;>
   refine⟨⟨by decide,by decide⟩,rfl,rfl,rfl,rfl,rfl,rfl,rfl,?_⟩<;>
   simp only[ai,aN,c9,jl,ft,ec,Int.reduceToNat,List.getD_cons_zero,List.getD_cons_succ,Bool.and_assoc]<;>
   simp+decide [eO]<;>grind
theorem xa:cV Tryz.prog 67 UD:=
 rC gW (fun _=>rfl) fun k hk=>bd (inl:=bS) (ann:=aO) (ab Hf (ab Ms an)) (Ro k hk) (by kernel_rfl)
theorem NX (k:Key) (hk:k.wf):
 ((!aN k)=true->2=bg k)/\((!aN k)=false->0=bg k):=by
 unfold bg;cases aN k<;>simp
theorem fj:cV Tryz.prog 69 Qs:=
 rC gW (fun _=>rfl) fun k hk=>bd (inl:=bS) (ann:=aO) (ab xa an) (NX k hk) (by kernel_rfl)
theorem GY (k:Key) (hk:k.wf):
 ((!aN k|| !c9 k.kind)=true->0=bG k/\false=aR k)/\
   ((!aN k|| !c9 k.kind)=false->k.oid=bG k/\true=aR k):=by
 unfold bG aR;cases aN k<;>cases c9 k.kind<;>simp
theorem cF:cV Tryz.prog 46 Mr:=
 rC gW (fun _=>rfl) fun k hk=>bd (inl:=bS) (ann:=aO) (ab xa an) (GY k hk) (by kernel_rfl)
theorem D6 (k:Key) (o:Sx.Obj) (hk:k.wf):
 ((!aN k)=true->false=bL k o)/\
   ((!aN k)=false->
     ((!c9 k.kind)=true->true=bL k o)/\
       ((!c9 k.kind)=false->
         (decide (o.kind=qH k.kind)&&decide (o.count=k.count)&&
           (!ft k.kind||decide (o.calls=k.call)))=
          bL k o)):=by
 cases hok:aN k
 ·simp[bL,hok]
 ·have h0:c9 k.kind=true->0<=k.oid:=fun h=>by
   simp only[aN,eO,h,if_true,Xo,Xp]at hok;omega
  simp only[bL,gK,bF,qH,ft,hok,Bool.true_and];simp only[c9]at *;grind
theorem wD:cV Tryz.prog 47 J9:=
 uo gW zo (fun _ _=>rfl) fun k o hk _=>bd (inl:=bS) (ann:=aO) (ab xa an) (D6 k o hk) (by kernel_rfl)
theorem Tc (n:Int):
 (decide (2<=n)&&decide (n<=7))=c9 n/\
  (decide (n=2)||decide (n=3))=nC n/\
   decide (n=7)=ft n/\(decide (n=1)||decide (n=6))=jl n:=by
 exact⟨rfl,rfl,rfl,rfl⟩
theorem H2:cV Tryz.prog 106 UT:=
 rC (gi .i64) (fun _=>rfl) fun n _=>bd (inl:=bS) (ann:=aO) an (Tc n) (by kernel_rfl)
theorem PV (k:Key) (hk:k.wf):
 (nC k.kind=true->
   (decide (k.kind=3)=true->
     ((decide (k.kind<0)||decide (10<k.kind)||decide (k.rights<0)||decide (1<k.rights)||
        !jl k.kind&& !decide (k.value=0))=
        true->
       2=bg k)/\
       ((decide (k.kind<0)||decide (10<k.kind)||decide (k.rights<0)||decide (1<k.rights)||
          !jl k.kind&& !decide (k.value=0))=
         false->
         ((c9 k.kind&&
            (decide (k.oid<0)||decide (64<=k.oid)||decide (k.count<0)||
             decide (4294967295<k.count))||
               !c9 k.kind&&(!decide (k.oid=0)|| !decide (k.count=0)))=
            true->
           2=bg k)/\
           ((c9 k.kind&&
                (decide (k.oid<0)||decide (64<=k.oid)||decide (k.count<0)||
                 decide (4294967295<k.count))||
              !c9 k.kind&&(!decide (k.oid=0)|| !decide (k.count=0)))=
             false->
             ((ft k.kind&&(decide (k.call<0)||decide (4294967295<k.call))||
                  !ft k.kind&& !decide (k.call=0))=
                true->
               2=bg k)/\
               ((ft k.kind&&(decide (k.call<0)||decide (4294967295<k.call))||
                  !ft k.kind&& !decide (k.call=0))=
                 false->
                 0=bg k))))/\
    (decide (k.kind=3)=false->
     ((decide (k.kind<0)||decide (10<k.kind)||decide (k.rights<0)||decide (7<k.rights)||
        !jl k.kind&& !decide (k.value=0))=
        true->
       2=bg k)/\
       ((decide (k.kind<0)||decide (10<k.kind)||decide (k.rights<0)||decide (7<k.rights)||
          !jl k.kind&& !decide (k.value=0))=
         false->
         ((c9 k.kind&&
            (decide (k.oid<0)||decide (64<=k.oid)||decide (k.count<0)||
             decide (4294967295<k.count))||
               !c9 k.kind&&(!decide (k.oid=0)|| !decide (k.count=0)))=
            true->
           2=bg k)/\
           ((c9 k.kind&&
                (decide (k.oid<0)||decide (64<=k.oid)||decide (k.count<0)||
                 decide (4294967295<k.count))||
              !c9 k.kind&&(!decide (k.oid=0)|| !decide (k.count=0)))=
             false->
             ((ft k.kind&&(decide (k.call<0)||decide (4294967295<k.call))||
                  !ft k.kind&& !decide (k.call=0))=
                true->
               2=bg k)/\
               ((ft k.kind&&(decide (k.call<0)||decide (4294967295<k.call))||
                  !ft k.kind&& !decide (k.call=0))=
                 false->
                 0=bg k)))))/\
  (nC k.kind=false->
   (decide (k.kind=3)=true->
     ((decide (k.kind<0)||decide (10<k.kind)||decide (k.rights<0)||decide (1<k.rights)||
        !jl k.kind&& !decide (k.value=0))=
        true->
       2=bg k)/\
       ((decide (k.kind<0)||decide (10<k.kind)||decide (k.rights<0)||decide (1<k.rights)||
          !jl k.kind&& !decide (k.value=0))=
         false->
         ((c9 k.kind&&
            (decide (k.oid<0)||decide (64<=k.oid)||decide (k.count<0)||
             decide (4294967295<k.count))||
               !c9 k.kind&&(!decide (k.oid=0)|| !decide (k.count=0)))=
            true->
           2=bg k)/\
           ((c9 k.kind&&
                (decide (k.oid<0)||decide (64<=k.oid)||decide (k.count<0)||
                 decide (4294967295<k.count))||
              !c9 k.kind&&(!decide (k.oid=0)|| !decide (k.count=0)))=
             false->
             ((ft k.kind&&(decide (k.call<0)||decide (4294967295<k.call))||
                  !ft k.kind&& !decide (k.call=0))=
                true->
               2=bg k)/\
               ((ft k.kind&&(decide (k.call<0)||decide (4294967295<k.call))||
                  !ft k.kind&& !decide (k.call=0))=
                 false->
                 0=bg k))))/\
    (decide (k.kind=3)=false->
     ((decide (k.kind<0)||decide (10<k.kind)||decide (k.rights<0)||decide (0<k.rights)||
        !jl k.kind&& !decide (k.value=0))=
        true->
       2=bg k)/\
       ((decide (k.kind<0)||decide (10<k.kind)||decide (k.rights<0)||decide (0<k.rights)||
          !jl k.kind&& !decide (k.value=0))=
         false->
         ((c9 k.kind&&
            (decide (k.oid<0)||decide (64<=k.oid)||decide (k.count<0)||
             decide (4294967295<k.count))||
               !c9 k.kind&&(!decide (k.oid=0)|| !decide (k.count=0)))=
            true->
           2=bg k)/\
           ((c9 k.kind&&
                (decide (k.oid<0)||decide (64<=k.oid)||decide (k.count<0)||
                 decide (4294967295<k.count))||
              !c9 k.kind&&(!decide (k.oid=0)|| !decide (k.count=0)))=
             false->
             ((ft k.kind&&(decide (k.call<0)||decide (4294967295<k.call))||
                  !ft k.kind&& !decide (k.call=0))=
                true->
               2=bg k)/\
               ((ft k.kind&&(decide (k.call<0)||decide (4294967295<k.call))||
                  !ft k.kind&& !decide (k.call=0))=
                 false->
                 0=bg k))))):=by
 simp only[bg,aN,eO,ec,nC];rcases Bool.eq_false_or_eq_true (c9 k.kind)with hA|hA<;>rcases Bool.eq_false_or_eq_true (ft k.kind)with hB|hB<;>rcases Bool.eq_false_or_eq_true (jl k.kind)with hC|hC<;>simp only[hA,hB,hC,Bool.true_and,Bool.false_and,Bool.not_true,Bool.not_false,Bool.or_false,Bool.false_or,Bool.true_or,if_true,Bool.false_eq_true,if_false,Bool.and_true]<;>grind
theorem En:cV Tryz.prog 70 Qs:=
 rC gW (fun _=>rfl) fun k hk=>bd (inl:=bS) (ann:=aO) (ab H2 an) (PV k hk) (by kernel_rfl)
theorem FT (k:Key) (hk:k.wf):
 ((!decide (bg k=0)|| !c9 k.kind)=true-> -1=bF k)/\
   ((!decide (bg k=0)|| !c9 k.kind)=false->k.oid=bF k):=by
 unfold bF bg;cases aN k<;>cases c9 k.kind<;>simp
theorem G0:cV Tryz.prog 71 II:=
 rC gW (fun _=>rfl) fun k hk=>bd (inl:=bS) (ann:=aO) (ab H2 (ab En an)) (FT k hk) (by kernel_rfl)
end Go.Proofs.YtlblcfaclmpekaaGreat
namespace Go.Sx
def gk (kind n:Int) (k:Key):Bool:=aN k&&decide (bF k<n)&&(decide (kind=1)||decide (k=void))
def bf (o:Obj) (n:Int):Bool:=
 decide (1<=n)&&decide (n<=64)&&decide (0<=o.kind)&&decide (o.kind<=3)&&decide (0<=o.count)&&decide (o.count<=4294967295)&&decide (0<=o.calls)&&decide (o.calls<=4294967295)&&
 (decide (o.kind=1)||decide (o.calls=0))&&(List.range 16).all (fun i=>gk o.kind n (o.slots.at i))&&
 (List.range 64).all (fun i=>decide (o.kind=1)||decide (o.kind=2)||decide (o.bytes.at i=0))
def bU (o:Obj) (n:Int):Int:=if bf o n then 0 else 2
def jZ (o:Obj) (b:Bool):Bool:=decide (o.slots=fD)&&(b||decide (o.bytes=dV))&&decide (o.calls=0)
def An (o:Obj) (n:Int) (i:Int):Prop:=0<=i/\i<=16/\∀j:Nat,(j:Int)<i->gk o.kind n (o.slots.at j)=true
def z9 (o:Obj) (n:Int) (i:Int):Prop:=0<=i/\i<=64/\(∀j:Nat,j<16->gk o.kind n (o.slots.at j)=true)/\∀j:Nat,(j:Int)<i->(o.kind=1\/o.kind=2\/o.bytes.at j=0)
def nF (o:Obj) (n:Int) (i:Int):Bool:=(List.range i.toNat).all fun j=>aN (o.slots.at j)&&decide (bF (o.slots.at j)<n)
def Ah (i:Int):Prop:=0<=i/\i<=16
def QJ:Ct:=Q8 rO toBool fun o b=> .bo (jZ o b)
def Mc:Ct:=Q8 rO (rI .i64) fun o n=> .it .i64 (bU o n)
theorem cO {o:Obj} {n:Int}:bf o n=true↔1<=n/\n<=64/\0<=o.kind/\o.kind<=3/\0<=o.count/\o.count<=4294967295/\0<=o.calls/\o.calls<=4294967295/\
  (o.kind=1\/o.calls=0)/\(∀i,i<16->gk o.kind n (o.slots.at i)=true)/\∀i,i<64->(o.kind=1\/o.kind=2)\/o.bytes.at i=0:=by
 simp only[bf,Xo,Xp,Bool.or_eq_true,List.all_eq_true,List.mem_range,and_assoc]
theorem nT {o:Obj} {n:Int} (h:¬bf o n=true):2=bU o n:=by simp[bU,h]
theorem pI {o:Obj} {n:Int} (h:bf o n=true):0=bU o n:=by simp[bU,h]
theorem Gp (kind n:Int) (k:Key):(!decide (bg k=0)||decide (n<=bF k)|| !decide (kind=1)&& !BC k void)= !gk kind n k:=by
 unfold gk bg BC;cases aN k<;>grind
theorem MR (b:UInt8):decide (Pf b=0)=decide (b=0):=by
 rw[decide_eq_decide,Pf];constructor
 ·intro h;have:b.toNat=0:=by omega
  exact UInt8.toNat_inj.1 (by simpa using this)
 ·rintro rfl;rfl
theorem Et {s:bJ}:s=fD↔ ∀i,i<16->s.at i=void:=by
 constructor
 ·rintro rfl i _;exact wa i
 ·intro h;refine Vector.ext fun i hi=>?_
  have:=h i hi;unfold bJ.at at this;simp only[fD,Vector.getElem_replicate];rw[<-this];simp[hi]
theorem Fb {s:Bytes}:s=dV↔ ∀i,i<64->s.at i=0:=by
 constructor
 ·rintro rfl i hi
  unfold Bytes.at dV;simp[hi]
 ·intro h;refine Vector.ext fun i hi=>?_
  have:=h i hi;unfold Bytes.at at this;simp only[dV,Vector.getElem_replicate];rw[<-this];simp[hi]
theorem lv:aN void=true/\bF void= -1:=by decide
theorem u6 {kind n:Int} (hk:kind≠1) (hn:1<=n) (k:Key):gk kind n k=true↔k=void:=by
 unfold gk;simp only[Xo,Xp,Bool.or_eq_true];constructor
 ·rintro⟨_,h|h⟩
  ·exact absurd h hk
  ·exact h
 ·rintro rfl
  exact⟨⟨lv.1,by rw[lv.2];omega⟩,.inr rfl⟩
theorem LL {o:Obj} {b:Bool}:jZ o b=true↔(∀i,i<16->o.slots.at i=void)/\(b=true\/∀i,i<64->o.bytes.at i=0)/\o.calls=0:=by
 simp only[jZ,Xo,Xp,Bool.or_eq_true,Et,Fb,and_assoc]
theorem C3 {o:Obj} {n:Int} (h1:1<=n) (h2:n<=64) (h3:0<=o.count) (h4:o.count<=4294967295) (h5:0<=o.calls) (h6:o.calls<=4294967295) {b:Bool} (hk:0<=o.kind/\o.kind<=3/\o.kind≠1) (hb:b=decide (o.kind=2)):
  bf o n=jZ o b:=by
 rw[Bool.eq_iff_iff,cO,LL];subst hb;constructor
 ·rintro⟨_,_,_,_,_,_,_,_,h,hs,hz⟩
  refine⟨fun i hi=>(u6 hk.2.2 h1 _).1 (hs i hi),?_,h.resolve_left hk.2.2⟩
  by_cases h2:o.kind=2
  ·exact .inl (by simp[h2])
  ·exact .inr fun i hi=>(hz i hi).resolve_left fun h=>h.elim hk.2.2 h2
 ·rintro⟨hs,hz,hc⟩
  refine⟨h1,h2,hk.1,hk.2.1,h3,h4,h5,h6,.inr hc,fun i hi=>(u6 hk.2.2 h1 _).2 (hs i hi),fun i hi=>?_⟩
  rcases hz with h|h
  ·exact .inl (.inr (by simpa using h))
  ·exact .inr (h i hi)
theorem DC {o:Obj} {n:Int} (h1:1<=n) (h2:n<=64) (h3:0<=o.count) (h4:o.count<=4294967295) (h5:0<=o.calls) (h6:o.calls<=4294967295) (hk:o.kind=1):bf o n=nF o n 16:=by
 rw[Bool.eq_iff_iff,cO];simp only[nF,List.all_eq_true,List.mem_range,hk,gk,Xo,decide_true,Bool.true_or,and_true];constructor
 ·rintro⟨_,_,_,_,_,_,_,_,_,hs,_⟩
  exact fun i hi=>hs i hi
 ·intro hs;exact⟨h1,h2,by omega,by omega,h3,h4,h5,h6,.inl trivial,fun i hi=>hs i hi,fun i hi=> .inl (.inl trivial)⟩
theorem Le {o:Obj} {n g:Int}:(nF o n g&&decide (bg (o.slots.at g.toNat)=0)&&(!aR (o.slots.at g.toNat)||decide (bG (o.slots.at g.toNat)<n)))=
  (nF o n g&&(aN (o.slots.at g.toNat)&&(!aR (o.slots.at g.toNat)||decide ((o.slots.at g.toNat).oid<n)))):=by
 unfold bg bG;cases aN (o.slots.at g.toNat)<;>cases aR (o.slots.at g.toNat)<;>simp
theorem Jf {o:Obj} {n g:Int} (h0:0<=g) (hn:1<=n):(nF o n g&&decide (bg (o.slots.at g.toNat)=0)&&(!aR (o.slots.at g.toNat)||decide (bG (o.slots.at g.toNat)<n)))=nF o n (g+1):=by
 rw[Le];unfold nF;rw[show(g+1).toNat=g.toNat+1 by omega,List.range_succ,List.all_append]
 simp only[List.all_cons,List.all_nil,Bool.and_true];congr 1
 unfold bF aR;cases aN (o.slots.at g.toNat)
 ·rfl
 ·cases c9 (o.slots.at g.toNat).kind
  ·simp;omega
  ·simp
end Go.Sx
namespace Go.Proofs.YtlblcfaclmpekaaGreat
open Go.Sx
set_option maxRecDepth 100000
theorem M7 (o:Sx.Obj) (b:Bool):
 (A7 o.slots fD&&(b||CE o.bytes dV)&&decide (o.calls=0))=jZ o b:=by
 unfold jZ A7 CE;rfl
theorem Oq:cV Tryz.prog 68 QJ:=
 uo zo KD (fun _ _=>rfl) fun o b _ _=>bd (inl:=bS) (ann:=aO) an (M7 o b) (by kernel_rfl)
theorem J1 (o:Sx.Obj) (n:Int):
 ((decide (n<1)||decide (64<n)||decide (o.kind<0)||decide (3<o.kind)||decide (o.count<0)||
             decide (4294967295<o.count)||
            decide (o.calls<0)||
           decide (4294967295<o.calls)||
    !decide (o.kind=1)&& !decide (o.calls=0))=
    true->
   2=bU o n)/\
   ((decide (n<1)||decide (64<n)||decide (o.kind<0)||decide (3<o.kind)||decide (o.count<0)||
              decide (4294967295<o.count)||
             decide (o.calls<0)||
      decide (4294967295<o.calls)||
      !decide (o.kind=1)&& !decide (o.calls=0))=
     false->
     (∃g,An o n g/\n=n/\o.kind=o.kind/\0=g/\o=o)/\
      ∀(g:Int),
       An o n g->
        (decide (g<16)=true->
          (0<=g/\g< ↑16)/\
           ((!!decide (bg (o.slots.at g.toNat)=0))=true->0<=g/\g< ↑16)/\
             ((!decide (o.kind=1)&&
                !(!decide (bg (o.slots.at g.toNat)=0)||
                  decide (n<=bF (o.slots.at g.toNat))))=
                true->
               0<=g/\g< ↑16)/\
               ((!decide (bg (o.slots.at g.toNat)=0)||decide (n<=bF (o.slots.at g.toNat))||
                  !decide (o.kind=1)&& !BC (o.slots.at g.toNat) void)=
                  true->
                 2=bU o n)/\
                 ((!decide (bg (o.slots.at g.toNat)=0)||decide (n<=bF (o.slots.at g.toNat))||
                    !decide (o.kind=1)&& !BC (o.slots.at g.toNat) void)=
                   false->
                   aL IntKind.i64 (g+1)/\
                    ∃g',
                     An o n g'/\
                      (16-g').toNat<(16-g).toNat/\n=n/\o.kind=o.kind/\g+1=g'/\o=o))/\
         (decide (g<16)=false->
          (∃g,z9 o n g/\n=n/\o.kind=o.kind/\0=g/\o=o)/\
           ∀(g:Int),
            z9 o n g->
             (decide (g<64)=true->
               ((!decide (o.kind=1)&& !decide (o.kind=2))=true->0<=g/\g< ↑64)/\
                 ((!decide (o.kind=1)&& !decide (o.kind=2)&&
                    !decide (Pf (o.bytes.at g.toNat)=0))=
                    true->
                   2=bU o n)/\
                   ((!decide (o.kind=1)&& !decide (o.kind=2)&&
                      !decide (Pf (o.bytes.at g.toNat)=0))=
                     false->
                     aL IntKind.i64 (g+1)/\
                      ∃g',
                       z9 o n g'/\
                        (64-g').toNat<(64-g).toNat/\
                         n=n/\o.kind=o.kind/\g+1=g'/\o=o))/\
              (decide (g<64)=false->0=bU o n))):=by
 refine⟨fun h=>nT fun hh=>?_,fun h=>⟨⟨0,⟨by omega,by omega,fun j hj=>by omega⟩,rfl,rfl,rfl,rfl⟩,fun g hg=>⟨fun hlt=>?_,fun hge=>?_⟩⟩⟩
 ·have:=cO.1 hh;simp only[Bool.or_eq_true,Xo,Bool.not_eq_true',Xp,decide_eq_false_iff_not]at h;omega
 ·obtain⟨g0,g1,g2⟩:=hg;have hlt:=Xs hlt;rw[Gp];refine⟨⟨g0,by omega⟩,fun _=>⟨g0,by omega⟩,fun _=>⟨g0,by omega⟩,fun hbad=>nT fun hh=>?_,fun hok=>⟨?_,g+1,⟨by omega,by omega,fun j hj=>?_⟩,by omega,rfl,rfl,rfl,rfl⟩⟩
  ·have:=(cO.1 hh).2.2.2.2.2.2.2.2.2.1 g.toNat (by omega)
   rw[this]at hbad;simp at hbad
  ·simp only[aL,cg];omega
  ·by_cases e:(j:Int)<g
   ·exact g2 j e
   ·have:j=g.toNat:=by omega
    subst this;simpa using hok
 ·obtain⟨g0,g1,g2⟩:=hg;have hge:¬g<16:=Xr hge;refine⟨⟨0,⟨by omega,by omega,fun j hj=>g2 j (by omega),fun j hj=>by omega⟩,rfl,rfl,rfl,rfl⟩,fun g hg=>⟨fun hlt=>?_,fun hge=>pI ?_⟩⟩
  ·obtain⟨k0,k1,k2,k3⟩:=hg;have hlt:=Xs hlt;simp only[MR];refine⟨fun _=>⟨k0,by omega⟩,fun hbad=>nT fun hh=>?_,fun hok=>⟨?_,g+1,⟨by omega,by omega,k2,fun j hj=>?_⟩,by omega,by simp⟩⟩
   ·have:=(cO.1 hh).2.2.2.2.2.2.2.2.2.2 g.toNat (by omega)
    simp only[Xo,Bool.not_eq_true',decide_eq_false_iff_not]at hbad;grind
   ·simp only[aL,cg];omega
   ·by_cases e:(j:Int)<g
    ·exact k3 j e
    ·have:j=g.toNat:=by omega
     subst this;simp only[Bool.and_eq_false_iff,Bool.not_eq_false',Xp]at hok;grind
  ·obtain⟨k0,k1,k2,k3⟩:=hg;have hge:¬g<64:=Xr hge;simp only[Bool.or_eq_false_iff,Bool.and_eq_false_iff,Bool.not_eq_false',Xp,decide_eq_false_iff_not]at h;refine cO.2 ⟨by omega,by omega,by omega,by omega,by omega,by omega,by omega,by omega,by omega,k2,fun i hi=>?_⟩
   have:=k3 i (by omega)
   grind
theorem Lr:cV Tryz.prog 65 Mc:=
 uo zo (gi .i64) (fun _ _=>rfl) fun o n _ _=>bd (inl:=bS) (ann:=(kg [(65,5,WR [1,2,5] 6 (An o n) 16),(65,10,WR [1,2,5] 7 (z9 o n) 64)])) (ab En (ab G0 an)) (J1 o n) (by kernel_rfl)
theorem Og (o:Sx.Obj) (n:Int):
 ((decide (n<1)||decide (64<n)||decide (o.count<0)||decide (4294967295<o.count)||
           decide (o.calls<0)||
    decide (4294967295<o.calls))=
    true->
   2=bU o n)/\
   ((decide (n<1)||decide (64<n)||decide (o.count<0)||decide (4294967295<o.count)||
      decide (o.calls<0)||
      decide (4294967295<o.calls))=
     false->
     (decide (o.kind=0)=true->
       ((!jZ o false)=true->2=bU o n)/\((!jZ o false)=false->0=bU o n))/\
      (decide (o.kind=0)=false->
       (decide (o.kind=3)=true->
         ((!jZ o false)=true->2=bU o n)/\((!jZ o false)=false->0=bU o n))/\
        (decide (o.kind=3)=false->
         (decide (o.kind=2)=true->
           ((!jZ o true)=true->2=bU o n)/\((!jZ o true)=false->0=bU o n))/\
          (decide (o.kind=2)=false->
           (decide (o.kind=1)=true->
             (∃g,Ah g/\n=n/\true=nF o n g/\o.slots=o.slots/\0=g/\o=o)/\
              ∀(g:Int),
               Ah g->
                (decide (g<16)=true->
                  (0<=g/\g< ↑16)/\
                   aL IntKind.i64 (g+1)/\
                    ∃g',
                     Ah g'/\
                      (16-g').toNat<(16-g).toNat/\
                       n=n/\
                        (nF o n g&&decide (bg (o.slots.at g.toNat)=0)&&
                           (!aR (o.slots.at g.toNat)||
                            decide (bG (o.slots.at g.toNat)<n)))=
                          nF o n g'/\
                         o.slots=o.slots/\g+1=g'/\o=o)/\
                 (decide (g<16)=false->
                  ((!nF o n g)=true->2=bU o n)/\((!nF o n g)=false->0=bU o n)))/\
            (decide (o.kind=1)=false->2=bU o n))))):=by
 refine⟨fun h=>nT fun hh=>?_,fun h=>?_⟩
 ·have:=cO.1 hh;simp only[Bool.or_eq_true,Xp]at h;omega
 ·simp only[Bool.or_eq_false_iff,decide_eq_false_iff_not]at h
  have hb:∀(b:Bool),(0<=o.kind/\o.kind<=3/\o.kind≠1)->b=decide (o.kind=2)->((!jZ o b)=true->2=bU o n)/\((!jZ o b)=false->0=bU o n):=fun b h1 h2=>by
   have he:=C3 (o:=o) (n:=n) (b:=b) (by omega) (by omega) (by omega) (by omega) (by omega) (by omega) h1 h2
   exact⟨fun hn=>nT (by rw[he];simpa using hn),fun hy=>pI (by rw[he];simpa using hy)⟩
  refine⟨fun h0=>?_,fun h0=>⟨fun h3=>?_,fun h3=>⟨fun h2=>?_,fun h2=>⟨fun h1=>⟨⟨0,⟨by omega,by omega⟩,rfl,rfl,rfl,rfl,rfl⟩,fun g hg=>⟨fun hlt=>?_,fun hge=>?_⟩⟩,fun h1=>nT fun hh=>?_⟩⟩⟩⟩
  ·have h0:=Xs h0;exact hb false (by omega) (by simp[h0])
  ·have h3:=Xs h3;exact hb false (by omega) (by simp[h3])
  ·have h2:=Xs h2;exact hb true (by omega) (by simp[h2])
  ·obtain⟨g0,g1⟩:=hg;have hlt:=Xs hlt;refine⟨⟨g0,by omega⟩,by simp only[aL,cg];omega,g+1,⟨by omega,by omega⟩,by omega,rfl,Jf g0 (by omega),rfl,rfl,rfl⟩
  ·obtain⟨g0,g1⟩:=hg;have hge:¬g<16:=Xr hge;have h1:=Xs h1;have e:g=16:=by omega
   subst e;have he:=DC (o:=o) (n:=n) (by omega) (by omega) (by omega) (by omega) (by omega) (by omega) h1
   exact⟨fun hn=>nT (by rw[he];simpa using hn),fun hy=>pI (by rw[he];simpa using hy)⟩
  ·have:=cO.1 hh;have h0:¬o.kind=0:=Xr h0;have h1:¬o.kind=1:=Xr h1;have h2:¬o.kind=2:=Xr h2;have h3:¬o.kind=3:=Xr h3;omega
theorem AP:cV Tryz.prog 48 Mc:=
 uo zo (gi .i64) (fun _ _=>rfl) fun o n _ _=>bd (inl:=bS) (ann:=(kg [(48,12,Uz [1,2,51] (fun g=> [(52,.it .i64 g),(5,.bo (nF o n g))]) Ah 16)])) (ab Oq (ab fj (ab cF an))) (Og o n) (by kernel_rfl)
end Go.Proofs.YtlblcfaclmpekaaGreat
