import Derived.Test.YtmfbohanboiklaaSxF
set_option linter.unusedSimpArgs false
set_option linter.unusedVariables false
namespace Go.Sx
def cH (h:Bool) (n m:Int):Bool:=if h then decide (0<=n)&&decide (n<=m)else decide (n=0)
def bk (n:Int):Bool:=decide (2<=n)&&decide (n<=7)
def lz (n:Int):Bool:=decide (n=2)||decide (n=3)
def cS (n:Int):Bool:=decide (n=7)
def fa (n:Int):Bool:=decide (n=1)||decide (n=6)
def fk (n:Int):Int:=if n=2 then 7 else if n=3 then 1 else 0
def au (k:Key):Bool:=
 decide (0<=k.kind)&&decide (k.kind<=10)&&decide (0<=k.rights)&&decide (k.rights<=fk k.kind)&&(fa k.kind||decide (k.value=0))&&
 cH (bk k.kind) k.oid 63&&cH (bk k.kind) k.count 4294967295&&cH (cS k.kind) k.call 4294967295
def aW (k:Key):Int:=if au k then 0 else 2
def aE (k:Key):Int:=if au k&&bk k.kind then k.oid else -1
def ja (k:Key):Int:=if aE k<0 then 0 else if k.kind=3 then 2 else 1
def bS (k:Key) (o:Obj):Bool:=
 au k&&(decide (aE k<0)||(decide (o.kind=ja k)&&decide (o.count=k.count)&&(!decide (k.kind=7)||decide (o.calls=k.call))))
def IA (k:Key):Bool:=decide (0<=k.kind)&&decide (k.kind<=10)
def iI (n:Nat):ByteArray:=
 match n with
 |0=> "void".toUTF8
 |1=> "number".toUTF8
 |2=> "node".toUTF8
 |3=> "page".toUTF8
 |4=> "bank".toUTF8
 |5=> "proc".toUTF8
 |6=> "start".toUTF8
 |7=> "resume".toUTF8
 |8=> "discrim".toUTF8
 |9=> "clock".toUTF8
 |10=> "check".toUTF8
 |_=>ByteArray.empty
def kd (s:ByteArray) (a b c d:Bool) (m w:Int):V:= .ag [.st s,.cb a,.cb b,.cb c,.cb d,.ci .i64 m,.ci .i64 w]
def vS:V:= .ag [kd (iI 0) false false false false 0 0,kd (iI 1) false false false true 0 0,kd (iI 2) true true false false 7 1,kd (iI 3) true true false false 1 2,
 kd (iI 4) true false false false 0 1,kd (iI 5) true false false false 0 1,kd (iI 6) true false false true 0 1,kd (iI 7) true false true false 0 1,
 kd (iI 8) false false false false 0 0,kd (iI 9) false false false false 0 0,kd (iI 10) false false false false 0 0]
def rf (k:Key):ByteArray:=if IA k then iI k.kind.toNat else ByteArray.empty
def mB (n:Int):Int:=if n=3 then 2 else if 2<=n/\n<=7 then 1 else 0
def Db:Ct:=MA toBool (rI .i64) (rI .i64) fun h n m=> .bo (cH h n m)
def LV:Ct:=FM rK fun k=> .tp [.ag [.st (rf k),.bo (bk k.kind),.bo (lz k.kind),.bo (cS k.kind),.bo (fa k.kind),.it .i64 (fk k.kind),.it .i64 (mB k.kind)],.bo (au k)]
def La:Ct:=FM (rI .i64) fun n=> .tp [.bo (bk n),.bo (lz n),.bo (cS n),.bo (fa n)]
def It:Ct:=FM rK fun k=> .it .i64 (aW k)
def aN (k:Key):Bool:=au k&&bk k.kind
def dS (k:Key):Int:=if aN k then k.oid else 0
def Eg:Ct:=FM rK fun k=> .tp [.it .i64 (dS k),.bo (aN k)]
def DX:Ct:=FM rK fun k=> .it .i64 (aE k)
def Di:Ct:=FM rK fun k=> .it .i64 (ja k)
def wJ:Ct:=Jr rK rO fun k o=> .bo (bS k o)
theorem wrap_i64 {n:Int} (h:bG .i64 n):IntKind.wrap .i64 n=n:=by
 have:=h;simp only[bG]at this;unfold IntKind.wrap;simp[IntKind.bits,IntKind.signed];omega
theorem ni {r:Int} (j:Nat) (hj:j<63) (h0:0<=r) (h1:r<=9223372036854775807):cG .andNot .i64 r ((2^j-1:Nat):Int)=0↔r<2^j:=by
 obtain⟨n,rfl⟩:=Int.eq_ofNat_of_zero_le h0;have hn:n<2^64:=by omega
 have hbit:∀i,(BitVec.ofInt 64 (n:Int)).getLsbD i=n.testBit i:=by
  intro i;rw[BitVec.ofInt_natCast,BitVec.getLsbD_ofNat];by_cases hi:i<64
  ·simp[hi]
  ·rw[Nat.testBit_lt_two_pow (Nat.lt_of_lt_of_le hn (Nat.pow_le_pow_right (by omega) (by omega)))];simp
 have hx:(BitVec.ofInt 64 (n:Int) &&& ~~~BitVec.ofInt 64 ((2^j-1:Nat):Int)).toNat=0↔n<2^j:=by
  constructor
  ·intro h;refine Nat.lt_pow_two_of_testBit _ fun i hi=>?_
   rcases Nat.lt_or_ge i 64 with h64|h64
   ·have h2:(BitVec.ofInt 64 (n:Int) &&& ~~~BitVec.ofInt 64 ((2^j-1:Nat):Int)).getLsbD i=false:=by
     rw[BitVec.getLsbD,h];simp
    rw[BitVec.getLsbD_and,hbit,BitVec.getLsbD_not,BitVec.ofInt_natCast,BitVec.getLsbD_ofNat,Nat.testBit_two_pow_sub_one]at h2;simp only[h64,decide_true,Bool.true_and,show¬i<j by omega,decide_false,Bool.not_false,Bool.and_true]at h2
    exact h2
   ·exact Nat.testBit_lt_two_pow (Nat.lt_of_lt_of_le hn (Nat.pow_le_pow_right (by omega) h64))
  ·intro h
   have:BitVec.ofInt 64 (n:Int) &&& ~~~BitVec.ofInt 64 ((2^j-1:Nat):Int)=0#64:=by
    refine BitVec.eq_of_getLsbD_eq fun i hi=>?_
    rw[BitVec.getLsbD_and,hbit,BitVec.getLsbD_not,BitVec.ofInt_natCast,BitVec.getLsbD_ofNat,Nat.testBit_two_pow_sub_one];by_cases hij:i<j
    ·simp[hij,hi]
    ·rw[Nat.testBit_lt_two_pow (Nat.lt_of_lt_of_le h (Nat.pow_le_pow_right (by omega) (by omega)))];simp
   rw[this];rfl
 have hle:(BitVec.ofInt 64 (n:Int) &&& ~~~BitVec.ofInt 64 ((2^j-1:Nat):Int)).toNat<=n:=by
  rw[BitVec.toNat_and];refine Nat.le_trans Nat.and_le_left ?_;rw[BitVec.ofInt_natCast,BitVec.toNat_ofNat];exact Nat.mod_le _ _
 have hp:((2^j:Nat):Int)=(2:Int)^j:=by simp
 change IntKind.wrap .i64 (((BitVec.ofInt 64 (n:Int) &&& ~~~BitVec.ofInt 64 ((2^j-1:Nat):Int)).toNat:Nat):Int)=0↔_
 generalize (BitVec.ofInt 64 (n:Int) &&& ~~~BitVec.ofInt 64 ((2^j-1:Nat):Int)).toNat=x at *
 rw[wrap_i64 (by simp only[bG];omega),<-hp]
 omega
theorem HK {r:Int} (h0:0<=r) (h1:r<=9223372036854775807):cG .andNot .i64 r 7=0↔r<=7:=by
 have:=ni 3 (by omega) h0 h1
 rw[show((2^3-1:Nat):Int)=7 from rfl,show(2:Int)^3=8 from rfl]at this;rw[this];omega
theorem FT {r:Int} (h0:0<=r) (h1:r<=9223372036854775807):cG .andNot .i64 r 1=0↔r<=1:=by
 have:=ni 1 (by omega) h0 h1
 rw[show((2^1-1:Nat):Int)=1 from rfl,show(2:Int)^1=2 from rfl]at this;rw[this];omega
theorem Gy {r:Int} (h0:0<=r) (h1:r<=9223372036854775807):cG .andNot .i64 r 0=0↔r<=0:=by
 have:=ni 0 (by omega) h0 h1
 rw[show((2^0-1:Nat):Int)=0 from rfl,show(2:Int)^0=1 from rfl]at this;rw[this];omega
theorem CP {r m:Int} {b:Bool} (h:0<=r->(b=decide (r<=m))):(decide (0<=r)&&b)=(decide (0<=r)&&decide (r<=m)):=by
 by_cases h0:0<=r
 ·rw[h h0]
 ·simp[h0]
end Go.Sx
namespace Go.Proofs.Ytmfbohanboiklaa
open Go.Sx
set_option maxRecDepth 100000
theorem Cg (h:Bool) (n m:Int):
 (h&&decide (0<=n)&&decide (n<=m)|| !h&&decide (n=0))=cH h n m:=by
 unfold cH;cases h<;>simp
theorem Bi:bV Try.prog 73 Db:=
 Kt EI (fR .i64) (fR .i64) (fun _ _ _=>rfl) fun h n m _ _ _=>aL (inl:=bz) (ann:=bW) aB (Cg h n m) (by kernel_rfl)
theorem ER:bV Try.prog 72 (KT vS):=
 Jp rfl (aL (inl:=bz) (ann:=bW) aB (G:=vS=vS) rfl (by kernel_rfl):aj _ _ _ _ (fun v _=>v=vS) (fun _ _=>False))
theorem JT (k:Key) (hk:k.wf):
 ((decide (k.kind<0)||decide (10<k.kind))=true->
   {data:= {toList:= []}}=rf k/\
    false=bk k.kind/\
     false=lz k.kind/\
      false=cS k.kind/\false=fa k.kind/\0=fk k.kind/\0=mB k.kind/\false=au k)/\
   ((decide (k.kind<0)||decide (10<k.kind))=false->
     (0<=k.kind/\k.kind< ↑11)/\
      ay [iI 0,iI 1,iI 2,iI 3,iI 4,iI 5,iI 6,iI 7,iI 8,iI 9,iI 10] k.kind.toNat
          {data:= {toList:= []}}=
        rf k/\
       ay [false,false,true,true,true,true,true,true,false,false,false] k.kind.toNat false=
         bk k.kind/\
        ay [false,false,true,true,false,false,false,false,false,false,false] k.kind.toNat false=
          lz k.kind/\
         ay [false,false,false,false,false,false,false,true,false,false,false] k.kind.toNat false=
           cS k.kind/\
          ay [false,true,false,false,false,false,true,false,false,false,false] k.kind.toNat false=
            fa k.kind/\
           ay [0,0,7,1,0,0,0,0,0,0,0] k.kind.toNat 0=fk k.kind/\
            ay [0,0,1,2,1,1,1,1,0,0,0] k.kind.toNat 0=mB k.kind/\
             (cH
                (ay [false,false,true,true,true,true,true,true,false,false,false]
                 k.kind.toNat false)
                k.oid 63&&
                cH
                 (ay [false,false,true,true,true,true,true,true,false,false,false]
                  k.kind.toNat false)
                 k.count 4294967295&&
                cH
                 (ay [false,false,false,false,false,false,false,true,false,false,false]
                  k.kind.toNat false)
                 k.call 4294967295&&
                decide (0<=k.rights)&&
                decide
                 (cG BinOp.andNot IntKind.i64 k.rights
                   (ay [0,0,7,1,0,0,0,0,0,0,0] k.kind.toNat 0)=
                  0)&&
               (ay [false,true,false,false,false,false,true,false,false,false,false] k.kind.toNat
                 false||
                decide (k.value=0)))=
              au k):=by
 obtain⟨kind,oid,count,call,rights,value⟩:=k;have hr:rights<=9223372036854775807:=hk.2.2.2.2.1.2;simp only;have he:(ByteArray.empty:ByteArray)= {data:= {toList:= []}}:=rfl;refine⟨fun h=>?_,fun h=>?_⟩
 ·simp only[Bool.or_eq_true,N4]at h;refine⟨?_,?_,?_,?_,?_,?_,?_,?_⟩<;>simp only[rf,IA,bk,lz,cS,fa,fk,mB,au]<;>grind
 ·simp only[Bool.or_eq_false_iff,decide_eq_false_iff_not]at h;have hb:∀m,(0<=rights->(decide (cG .andNot .i64 rights m=0))=decide (rights<=m))->(decide (0<=rights)&&decide (cG .andNot .i64 rights m=0))=(decide (0<=rights)&&decide (rights<=m)):=fun m hm=>CP hm
  have h7:=hb 7 fun h0=>by rw[decide_eq_decide];exact HK h0 hr
  have h1:=hb 1 fun h0=>by rw[decide_eq_decide];exact FT h0 hr
  have h0:=hb 0 fun h0=>by rw[decide_eq_decide];exact Gy h0 hr
  have hc:kind=0\/kind=1\/kind=2\/kind=3\/kind=4\/kind=5\/kind=6\/kind=7\/kind=8\/kind=9\/kind=10:=by omega
  rcases hc with rfl|rfl|rfl|rfl|rfl|rfl|rfl|rfl|rfl|rfl|rfl<;>
   refine⟨⟨by decide,by decide⟩,rfl,rfl,rfl,rfl,rfl,rfl,rfl,?_⟩<;>
   simp only[ay,au,bk,fa,cS,fk,Int.reduceToNat,List.getD_cons_zero,List.getD_cons_succ,Bool.and_assoc]<;>
   simp+decide [cH]<;>grind
theorem vY:bV Try.prog 61 LV:=
 km fL (fun _=>rfl) fun k hk=>aL (inl:=bz) (ann:=bW) (an Bi (an ER aB)) (JT k hk) (by kernel_rfl)
theorem HV (k:Key) (hk:k.wf):
 ((!au k)=true->2=aW k)/\((!au k)=false->0=aW k):=by
 unfold aW;cases au k<;>simp
theorem re:bV Try.prog 47 It:=
 km fL (fun _=>rfl) fun k hk=>aL (inl:=bz) (ann:=bW) (an vY aB) (HV k hk) (by kernel_rfl)
theorem Cl (k:Key) (hk:k.wf):
 ((!au k|| !bk k.kind)=true->0=dS k/\false=aN k)/\
   ((!au k|| !bk k.kind)=false->k.oid=dS k/\true=aN k):=by
 unfold dS aN;cases au k<;>cases bk k.kind<;>simp
theorem hJ:bV Try.prog 40 Eg:=
 km fL (fun _=>rfl) fun k hk=>aL (inl:=bz) (ann:=bW) (an vY aB) (Cl k hk) (by kernel_rfl)
theorem yZ (k:Key) (o:Sx.Obj) (hk:k.wf):
 ((!au k)=true->false=bS k o)/\
   ((!au k)=false->
     ((!bk k.kind)=true->true=bS k o)/\
       ((!bk k.kind)=false->
         (decide (o.kind=mB k.kind)&&decide (o.count=k.count)&&
           (!cS k.kind||decide (o.calls=k.call)))=
          bS k o)):=by
 cases hok:au k
 ·simp[bS,hok]
 ·have h0:bk k.kind=true->0<=k.oid:=fun h=>by
   simp only[au,cH,h,if_true,N3,N4]at hok;omega
  simp only[bS,ja,aE,mB,cS,hok,Bool.true_and];simp only[bk]at *;grind
theorem s5:bV Try.prog 86 wJ:=
 lh fL uV (fun _ _=>rfl) fun k o hk _=>aL (inl:=bz) (ann:=bW) (an vY aB) (yZ k o hk) (by kernel_rfl)
theorem IU (n:Int):
 (decide (2<=n)&&decide (n<=7))=bk n/\
  (decide (n=2)||decide (n=3))=lz n/\
   decide (n=7)=cS n/\(decide (n=1)||decide (n=6))=fa n:=by
 exact⟨rfl,rfl,rfl,rfl⟩
theorem Dc:bV Try.prog 22 La:=
 km (fR .i64) (fun _=>rfl) fun n _=>aL (inl:=bz) (ann:=bW) aB (IU n) (by kernel_rfl)
theorem Gt (k:Key) (hk:k.wf):
 (lz k.kind=true->
   (decide (k.kind=3)=true->
     ((decide (k.kind<0)||decide (10<k.kind)||decide (k.rights<0)||decide (1<k.rights)||
        !fa k.kind&& !decide (k.value=0))=
        true->
       2=aW k)/\
       ((decide (k.kind<0)||decide (10<k.kind)||decide (k.rights<0)||decide (1<k.rights)||
          !fa k.kind&& !decide (k.value=0))=
         false->
         ((bk k.kind&&
            (decide (k.oid<0)||decide (64<=k.oid)||decide (k.count<0)||
             decide (4294967295<k.count))||
               !bk k.kind&&(!decide (k.oid=0)|| !decide (k.count=0)))=
            true->
           2=aW k)/\
           ((bk k.kind&&
                (decide (k.oid<0)||decide (64<=k.oid)||decide (k.count<0)||
                 decide (4294967295<k.count))||
              !bk k.kind&&(!decide (k.oid=0)|| !decide (k.count=0)))=
             false->
             ((cS k.kind&&(decide (k.call<0)||decide (4294967295<k.call))||
                  !cS k.kind&& !decide (k.call=0))=
                true->
               2=aW k)/\
               ((cS k.kind&&(decide (k.call<0)||decide (4294967295<k.call))||
                  !cS k.kind&& !decide (k.call=0))=
                 false->
                 0=aW k))))/\
    (decide (k.kind=3)=false->
     ((decide (k.kind<0)||decide (10<k.kind)||decide (k.rights<0)||decide (7<k.rights)||
        !fa k.kind&& !decide (k.value=0))=
        true->
       2=aW k)/\
       ((decide (k.kind<0)||decide (10<k.kind)||decide (k.rights<0)||decide (7<k.rights)||
          !fa k.kind&& !decide (k.value=0))=
         false->
         ((bk k.kind&&
            (decide (k.oid<0)||decide (64<=k.oid)||decide (k.count<0)||
             decide (4294967295<k.count))||
               !bk k.kind&&(!decide (k.oid=0)|| !decide (k.count=0)))=
            true->
           2=aW k)/\
           ((bk k.kind&&
                (decide (k.oid<0)||decide (64<=k.oid)||decide (k.count<0)||
                 decide (4294967295<k.count))||
              !bk k.kind&&(!decide (k.oid=0)|| !decide (k.count=0)))=
             false->
             ((cS k.kind&&(decide (k.call<0)||decide (4294967295<k.call))||
                  !cS k.kind&& !decide (k.call=0))=
                true->
               2=aW k)/\
               ((cS k.kind&&(decide (k.call<0)||decide (4294967295<k.call))||
                  !cS k.kind&& !decide (k.call=0))=
                 false->
                 0=aW k)))))/\
  (lz k.kind=false->
   (decide (k.kind=3)=true->
     ((decide (k.kind<0)||decide (10<k.kind)||decide (k.rights<0)||decide (1<k.rights)||
        !fa k.kind&& !decide (k.value=0))=
        true->
       2=aW k)/\
       ((decide (k.kind<0)||decide (10<k.kind)||decide (k.rights<0)||decide (1<k.rights)||
          !fa k.kind&& !decide (k.value=0))=
         false->
         ((bk k.kind&&
            (decide (k.oid<0)||decide (64<=k.oid)||decide (k.count<0)||
             decide (4294967295<k.count))||
               !bk k.kind&&(!decide (k.oid=0)|| !decide (k.count=0)))=
            true->
           2=aW k)/\
           ((bk k.kind&&
                (decide (k.oid<0)||decide (64<=k.oid)||decide (k.count<0)||
                 decide (4294967295<k.count))||
              !bk k.kind&&(!decide (k.oid=0)|| !decide (k.count=0)))=
             false->
             ((cS k.kind&&(decide (k.call<0)||decide (4294967295<k.call))||
                  !cS k.kind&& !decide (k.call=0))=
                true->
               2=aW k)/\
               ((cS k.kind&&(decide (k.call<0)||decide (4294967295<k.call))||
                  !cS k.kind&& !decide (k.call=0))=
                 false->
                 0=aW k))))/\
    (decide (k.kind=3)=false->
     ((decide (k.kind<0)||decide (10<k.kind)||decide (k.rights<0)||decide (0<k.rights)||
        !fa k.kind&& !decide (k.value=0))=
        true->
       2=aW k)/\
       ((decide (k.kind<0)||decide (10<k.kind)||decide (k.rights<0)||decide (0<k.rights)||
          !fa k.kind&& !decide (k.value=0))=
         false->
         ((bk k.kind&&
            (decide (k.oid<0)||decide (64<=k.oid)||decide (k.count<0)||
             decide (4294967295<k.count))||
               !bk k.kind&&(!decide (k.oid=0)|| !decide (k.count=0)))=
            true->
           2=aW k)/\
           ((bk k.kind&&
                (decide (k.oid<0)||decide (64<=k.oid)||decide (k.count<0)||
                 decide (4294967295<k.count))||
              !bk k.kind&&(!decide (k.oid=0)|| !decide (k.count=0)))=
             false->
             ((cS k.kind&&(decide (k.call<0)||decide (4294967295<k.call))||
                  !cS k.kind&& !decide (k.call=0))=
                true->
               2=aW k)/\
               ((cS k.kind&&(decide (k.call<0)||decide (4294967295<k.call))||
                  !cS k.kind&& !decide (k.call=0))=
                 false->
                 0=aW k))))):=by
 simp only[aW,au,cH,fk,lz];rcases Bool.eq_false_or_eq_true (bk k.kind)with hA|hA<;>rcases Bool.eq_false_or_eq_true (cS k.kind)with hB|hB<;>rcases Bool.eq_false_or_eq_true (fa k.kind)with hC|hC<;>simp only[hA,hB,hC,Bool.true_and,Bool.false_and,Bool.not_true,Bool.not_false,Bool.or_false,Bool.false_or,Bool.true_or,if_true,Bool.false_eq_true,if_false,Bool.and_true]<;>grind
theorem nL:bV Try.prog 9 It:=
 km fL (fun _=>rfl) fun k hk=>aL (inl:=bz) (ann:=bW) (an Dc aB) (Gt k hk) (by kernel_rfl)
theorem Cj (k:Key) (hk:k.wf):
 ((!decide (aW k=0)|| !bk k.kind)=true-> -1=aE k)/\
   ((!decide (aW k=0)|| !bk k.kind)=false->k.oid=aE k):=by
 unfold aE aW;cases au k<;>cases bk k.kind<;>simp
theorem jO:bV Try.prog 56 DX:=
 km fL (fun _=>rfl) fun k hk=>aL (inl:=bz) (ann:=bW) (an Dc (an nL aB)) (Cj k hk) (by kernel_rfl)
theorem Bb (k:Key) (hk:k.wf):
 (decide (aE k<0)=true->0=ja k)/\
  (decide (aE k<0)=false->
   (decide (k.kind=3)=true->2=ja k)/\(decide (k.kind=3)=false->1=ja k)):=by
 unfold ja;grind
theorem A7:bV Try.prog 85 Di:=
 km fL (fun _=>rfl) fun k hk=>aL (inl:=bz) (ann:=bW) (an jO aB) (Bb k hk) (by kernel_rfl)
theorem yQ (k:Key) (o:Sx.Obj) (hk:k.wf):
 ((!decide (aW k=0))=true->false=bS k o)/\
   ((!decide (aW k=0))=false->
     (decide (aE k<0)=true->true=bS k o)/\
      (decide (aE k<0)=false->
       (decide (o.kind=ja k)&&decide (o.count=k.count)&&
         (!decide (k.kind=7)||decide (o.calls=k.call)))=
        bS k o)):=by
 unfold bS aW;cases au k<;>grind
theorem yO:bV Try.prog 71 wJ:=
 lh fL uV (fun _ _=>rfl) fun k o hk _=>aL (inl:=bz) (ann:=bW) (an nL (an jO (an A7 aB))) (yQ k o hk) (by kernel_rfl)
end Go.Proofs.Ytmfbohanboiklaa
namespace Go.Sx
def fJ (kind n:Int) (k:Key):Bool:=au k&&decide (aE k<n)&&(decide (kind=1)||decide (k=void))
def ej (o:Obj) (n:Int):Bool:=
 decide (1<=n)&&decide (n<=64)&&decide (0<=o.kind)&&decide (o.kind<=3)&&decide (0<=o.count)&&decide (o.count<=4294967295)&&decide (0<=o.calls)&&decide (o.calls<=4294967295)&&
 (decide (o.kind=1)||decide (o.calls=0))&&(List.range 16).all (fun i=>fJ o.kind n (o.slots.at i))&&
 (List.range 64).all (fun i=>decide (o.kind=1)||decide (o.kind=2)||decide (o.bytes.at i=0))
def bn (o:Obj) (n:Int):Int:=if ej o n then 0 else 2
def fI (o:Obj) (b:Bool):Bool:=decide (o.slots=iY)&&(b||decide (o.bytes=jX))&&decide (o.calls=0)
def vE (o:Obj) (n:Int) (i:Int):Prop:=0<=i/\i<=16/\∀j:Nat,(j:Int)<i->fJ o.kind n (o.slots.at j)=true
def vN (o:Obj) (n:Int) (i:Int):Prop:=0<=i/\i<=64/\(∀j:Nat,j<16->fJ o.kind n (o.slots.at j)=true)/\∀j:Nat,(j:Int)<i->(o.kind=1\/o.kind=2\/o.bytes.at j=0)
def jG (o:Obj) (n:Int) (i:Int):Bool:=(List.range i.toNat).all fun j=>au (o.slots.at j)&&decide (aE (o.slots.at j)<n)
def wg (i:Int):Prop:=0<=i/\i<=16
def Kq:Ct:=Jr rO toBool fun o b=> .bo (fI o b)
def EX:Ct:=Jr rO (rI .i64) fun o n=> .it .i64 (bn o n)
theorem fA {o:Obj} {n:Int}:ej o n=true↔1<=n/\n<=64/\0<=o.kind/\o.kind<=3/\0<=o.count/\o.count<=4294967295/\0<=o.calls/\o.calls<=4294967295/\
  (o.kind=1\/o.calls=0)/\(∀i,i<16->fJ o.kind n (o.slots.at i)=true)/\∀i,i<64->(o.kind=1\/o.kind=2)\/o.bytes.at i=0:=by
 simp only[ej,N3,N4,Bool.or_eq_true,List.all_eq_true,List.mem_range,and_assoc]
theorem ke {o:Obj} {n:Int} (h:¬ej o n=true):2=bn o n:=by simp[bn,h]
theorem tq {o:Obj} {n:Int} (h:ej o n=true):0=bn o n:=by simp[bn,h]
theorem BO (kind n:Int) (k:Key):(!decide (aW k=0)||decide (n<=aE k)|| !decide (kind=1)&& !yX k void)= !fJ kind n k:=by
 unfold fJ aW yX;cases au k<;>grind
theorem FQ (b:UInt8):decide (FP b=0)=decide (b=0):=by
 rw[decide_eq_decide,FP];constructor
 ·intro h;have:b.toNat=0:=by omega
  exact UInt8.toNat_inj.1 (by simpa using this)
 ·rintro rfl;rfl
theorem HR {s:cj}:s=iY↔ ∀i,i<16->s.at i=void:=by
 constructor
 ·rintro rfl i _;exact s8 i
 ·intro h;refine Vector.ext fun i hi=>?_
  have:=h i hi;unfold cj.at at this;simp only[iY,Vector.getElem_replicate];rw[<-this];simp[hi]
theorem HT {s:Bytes}:s=jX↔ ∀i,i<64->s.at i=0:=by
 constructor
 ·rintro rfl i hi
  unfold Bytes.at jX;simp[hi]
 ·intro h;refine Vector.ext fun i hi=>?_
  have:=h i hi;unfold Bytes.at at this;simp only[jX,Vector.getElem_replicate];rw[<-this];simp[hi]
theorem zK:au void=true/\aE void= -1:=by decide
theorem qg {kind n:Int} (hk:kind≠1) (hn:1<=n) (k:Key):fJ kind n k=true↔k=void:=by
 unfold fJ;simp only[N3,N4,Bool.or_eq_true];constructor
 ·rintro⟨_,h|h⟩
  ·exact absurd h hk
  ·exact h
 ·rintro rfl
  exact⟨⟨zK.1,by rw[zK.2];omega⟩,.inr rfl⟩
theorem CT {o:Obj} {b:Bool}:fI o b=true↔(∀i,i<16->o.slots.at i=void)/\(b=true\/∀i,i<64->o.bytes.at i=0)/\o.calls=0:=by
 simp only[fI,N3,N4,Bool.or_eq_true,HR,HT,and_assoc]
theorem zb {o:Obj} {n:Int} (h1:1<=n) (h2:n<=64) (h3:0<=o.count) (h4:o.count<=4294967295) (h5:0<=o.calls) (h6:o.calls<=4294967295) {b:Bool} (hk:0<=o.kind/\o.kind<=3/\o.kind≠1) (hb:b=decide (o.kind=2)):
  ej o n=fI o b:=by
 rw[Bool.eq_iff_iff,fA,CT];subst hb;constructor
 ·rintro⟨_,_,_,_,_,_,_,_,h,hs,hz⟩
  refine⟨fun i hi=>(qg hk.2.2 h1 _).1 (hs i hi),?_,h.resolve_left hk.2.2⟩
  by_cases h2:o.kind=2
  ·exact .inl (by simp[h2])
  ·exact .inr fun i hi=>(hz i hi).resolve_left fun h=>h.elim hk.2.2 h2
 ·rintro⟨hs,hz,hc⟩
  refine⟨h1,h2,hk.1,hk.2.1,h3,h4,h5,h6,.inr hc,fun i hi=>(qg hk.2.2 h1 _).2 (hs i hi),fun i hi=>?_⟩
  rcases hz with h|h
  ·exact .inl (.inr (by simpa using h))
  ·exact .inr (h i hi)
theorem yM {o:Obj} {n:Int} (h1:1<=n) (h2:n<=64) (h3:0<=o.count) (h4:o.count<=4294967295) (h5:0<=o.calls) (h6:o.calls<=4294967295) (hk:o.kind=1):ej o n=jG o n 16:=by
 rw[Bool.eq_iff_iff,fA];simp only[jG,List.all_eq_true,List.mem_range,hk,fJ,N3,decide_true,Bool.true_or,and_true];constructor
 ·rintro⟨_,_,_,_,_,_,_,_,_,hs,_⟩
  exact fun i hi=>hs i hi
 ·intro hs;exact⟨h1,h2,by omega,by omega,h3,h4,h5,h6,.inl trivial,fun i hi=>hs i hi,fun i hi=> .inl (.inl trivial)⟩
theorem D4 {o:Obj} {n g:Int}:(jG o n g&&decide (aW (o.slots.at g.toNat)=0)&&(!aN (o.slots.at g.toNat)||decide (dS (o.slots.at g.toNat)<n)))=
  (jG o n g&&(au (o.slots.at g.toNat)&&(!aN (o.slots.at g.toNat)||decide ((o.slots.at g.toNat).oid<n)))):=by
 unfold aW dS;cases au (o.slots.at g.toNat)<;>cases aN (o.slots.at g.toNat)<;>simp
theorem EW {o:Obj} {n g:Int} (h0:0<=g) (hn:1<=n):(jG o n g&&decide (aW (o.slots.at g.toNat)=0)&&(!aN (o.slots.at g.toNat)||decide (dS (o.slots.at g.toNat)<n)))=jG o n (g+1):=by
 rw[D4];unfold jG;rw[show(g+1).toNat=g.toNat+1 by omega,List.range_succ,List.all_append]
 simp only[List.all_cons,List.all_nil,Bool.and_true];congr 1
 unfold aE aN;cases au (o.slots.at g.toNat)
 ·rfl
 ·cases bk (o.slots.at g.toNat).kind
  ·simp;omega
  ·simp
end Go.Sx
namespace Go.Proofs.Ytmfbohanboiklaa
open Go.Sx
set_option maxRecDepth 100000
theorem GU (o:Sx.Obj) (b:Bool):
 (wW o.slots iY&&(b||xQ o.bytes jX)&&decide (o.calls=0))=fI o b:=by
 unfold fI wW xQ;rfl
theorem Ht:bV Try.prog 46 Kq:=
 lh uV EI (fun _ _=>rfl) fun o b _ _=>aL (inl:=bz) (ann:=bW) aB (GU o b) (by kernel_rfl)
theorem E8 (o:Sx.Obj) (n:Int):
 ((decide (n<1)||decide (64<n)||decide (o.kind<0)||decide (3<o.kind)||decide (o.count<0)||
             decide (4294967295<o.count)||
            decide (o.calls<0)||
           decide (4294967295<o.calls)||
    !decide (o.kind=1)&& !decide (o.calls=0))=
    true->
   2=bn o n)/\
   ((decide (n<1)||decide (64<n)||decide (o.kind<0)||decide (3<o.kind)||decide (o.count<0)||
              decide (4294967295<o.count)||
             decide (o.calls<0)||
      decide (4294967295<o.calls)||
      !decide (o.kind=1)&& !decide (o.calls=0))=
     false->
     (∃g,vE o n g/\n=n/\o.kind=o.kind/\0=g/\o=o)/\
      ∀(g:Int),
       vE o n g->
        (decide (g<16)=true->
          (0<=g/\g< ↑16)/\
           ((!!decide (aW (o.slots.at g.toNat)=0))=true->0<=g/\g< ↑16)/\
             ((!decide (o.kind=1)&&
                !(!decide (aW (o.slots.at g.toNat)=0)||
                  decide (n<=aE (o.slots.at g.toNat))))=
                true->
               0<=g/\g< ↑16)/\
               ((!decide (aW (o.slots.at g.toNat)=0)||decide (n<=aE (o.slots.at g.toNat))||
                  !decide (o.kind=1)&& !yX (o.slots.at g.toNat) void)=
                  true->
                 2=bn o n)/\
                 ((!decide (aW (o.slots.at g.toNat)=0)||decide (n<=aE (o.slots.at g.toNat))||
                    !decide (o.kind=1)&& !yX (o.slots.at g.toNat) void)=
                   false->
                   aU IntKind.i64 (g+1)/\
                    ∃g',
                     vE o n g'/\
                      (16-g').toNat<(16-g).toNat/\n=n/\o.kind=o.kind/\g+1=g'/\o=o))/\
         (decide (g<16)=false->
          (∃g,vN o n g/\n=n/\o.kind=o.kind/\0=g/\o=o)/\
           ∀(g:Int),
            vN o n g->
             (decide (g<64)=true->
               ((!decide (o.kind=1)&& !decide (o.kind=2))=true->0<=g/\g< ↑64)/\
                 ((!decide (o.kind=1)&& !decide (o.kind=2)&&
                    !decide (FP (o.bytes.at g.toNat)=0))=
                    true->
                   2=bn o n)/\
                   ((!decide (o.kind=1)&& !decide (o.kind=2)&&
                      !decide (FP (o.bytes.at g.toNat)=0))=
                     false->
                     aU IntKind.i64 (g+1)/\
                      ∃g',
                       vN o n g'/\
                        (64-g').toNat<(64-g).toNat/\
                         n=n/\o.kind=o.kind/\g+1=g'/\o=o))/\
              (decide (g<64)=false->0=bn o n))):=by
 refine⟨fun h=>ke fun hh=>?_,fun h=>⟨⟨0,⟨by omega,by omega,fun j hj=>by omega⟩,rfl,rfl,rfl,rfl⟩,fun g hg=>⟨fun hlt=>?_,fun hge=>?_⟩⟩⟩
 ·have:=fA.1 hh;simp only[Bool.or_eq_true,N3,Bool.not_eq_true',N4,decide_eq_false_iff_not]at h;omega
 ·obtain⟨g0,g1,g2⟩:=hg;have hlt:=N7 hlt;rw[BO];refine⟨⟨g0,by omega⟩,fun _=>⟨g0,by omega⟩,fun _=>⟨g0,by omega⟩,fun hbad=>ke fun hh=>?_,fun hok=>⟨?_,g+1,⟨by omega,by omega,fun j hj=>?_⟩,by omega,rfl,rfl,rfl,rfl⟩⟩
  ·have:=(fA.1 hh).2.2.2.2.2.2.2.2.2.1 g.toNat (by omega)
   rw[this]at hbad;simp at hbad
  ·simp only[aU,bG];omega
  ·by_cases e:(j:Int)<g
   ·exact g2 j e
   ·have:j=g.toNat:=by omega
    subst this;simpa using hok
 ·obtain⟨g0,g1,g2⟩:=hg;have hge:¬g<16:=N6 hge;refine⟨⟨0,⟨by omega,by omega,fun j hj=>g2 j (by omega),fun j hj=>by omega⟩,rfl,rfl,rfl,rfl⟩,fun g hg=>⟨fun hlt=>?_,fun hge=>tq ?_⟩⟩
  ·obtain⟨k0,k1,k2,k3⟩:=hg;have hlt:=N7 hlt;simp only[FQ];refine⟨fun _=>⟨k0,by omega⟩,fun hbad=>ke fun hh=>?_,fun hok=>⟨?_,g+1,⟨by omega,by omega,k2,fun j hj=>?_⟩,by omega,by simp⟩⟩
   ·have:=(fA.1 hh).2.2.2.2.2.2.2.2.2.2 g.toNat (by omega)
    simp only[N3,Bool.not_eq_true',decide_eq_false_iff_not]at hbad;grind
   ·simp only[aU,bG];omega
   ·by_cases e:(j:Int)<g
    ·exact k3 j e
    ·have:j=g.toNat:=by omega
     subst this;simp only[Bool.and_eq_false_iff,Bool.not_eq_false',N4]at hok;grind
  ·obtain⟨k0,k1,k2,k3⟩:=hg;have hge:¬g<64:=N6 hge;simp only[Bool.or_eq_false_iff,Bool.and_eq_false_iff,Bool.not_eq_false',N4,decide_eq_false_iff_not]at h;refine fA.2 ⟨by omega,by omega,by omega,by omega,by omega,by omega,by omega,by omega,by omega,k2,fun i hi=>?_⟩
   have:=k3 i (by omega)
   grind
theorem Dy:bV Try.prog 43 EX:=
 lh uV (fR .i64) (fun _ _=>rfl) fun o n _ _=>aL (inl:=bz) (ann:=(jM [(43,5,Nw [1,2,5] 6 (vE o n) 16),(43,10,Nw [1,2,5] 7 (vN o n) 64)])) (an nL (an jO aB)) (E8 o n) (by kernel_rfl)
theorem GM (o:Sx.Obj) (n:Int):
 ((decide (n<1)||decide (64<n)||decide (o.count<0)||decide (4294967295<o.count)||
           decide (o.calls<0)||
    decide (4294967295<o.calls))=
    true->
   2=bn o n)/\
   ((decide (n<1)||decide (64<n)||decide (o.count<0)||decide (4294967295<o.count)||
      decide (o.calls<0)||
      decide (4294967295<o.calls))=
     false->
     (decide (o.kind=0)=true->
       ((!fI o false)=true->2=bn o n)/\((!fI o false)=false->0=bn o n))/\
      (decide (o.kind=0)=false->
       (decide (o.kind=3)=true->
         ((!fI o false)=true->2=bn o n)/\((!fI o false)=false->0=bn o n))/\
        (decide (o.kind=3)=false->
         (decide (o.kind=2)=true->
           ((!fI o true)=true->2=bn o n)/\((!fI o true)=false->0=bn o n))/\
          (decide (o.kind=2)=false->
           (decide (o.kind=1)=true->
             (∃g,wg g/\n=n/\true=jG o n g/\o.slots=o.slots/\0=g/\o=o)/\
              ∀(g:Int),
               wg g->
                (decide (g<16)=true->
                  (0<=g/\g< ↑16)/\
                   aU IntKind.i64 (g+1)/\
                    ∃g',
                     wg g'/\
                      (16-g').toNat<(16-g).toNat/\
                       n=n/\
                        (jG o n g&&decide (aW (o.slots.at g.toNat)=0)&&
                           (!aN (o.slots.at g.toNat)||
                            decide (dS (o.slots.at g.toNat)<n)))=
                          jG o n g'/\
                         o.slots=o.slots/\g+1=g'/\o=o)/\
                 (decide (g<16)=false->
                  ((!jG o n g)=true->2=bn o n)/\((!jG o n g)=false->0=bn o n)))/\
            (decide (o.kind=1)=false->2=bn o n))))):=by
 refine⟨fun h=>ke fun hh=>?_,fun h=>?_⟩
 ·have:=fA.1 hh;simp only[Bool.or_eq_true,N4]at h;omega
 ·simp only[Bool.or_eq_false_iff,decide_eq_false_iff_not]at h
  have hb:∀(b:Bool),(0<=o.kind/\o.kind<=3/\o.kind≠1)->b=decide (o.kind=2)->((!fI o b)=true->2=bn o n)/\((!fI o b)=false->0=bn o n):=fun b h1 h2=>by
   have he:=zb (o:=o) (n:=n) (b:=b) (by omega) (by omega) (by omega) (by omega) (by omega) (by omega) h1 h2
   exact⟨fun hn=>ke (by rw[he];simpa using hn),fun hy=>tq (by rw[he];simpa using hy)⟩
  refine⟨fun h0=>?_,fun h0=>⟨fun h3=>?_,fun h3=>⟨fun h2=>?_,fun h2=>⟨fun h1=>⟨⟨0,⟨by omega,by omega⟩,rfl,rfl,rfl,rfl,rfl⟩,fun g hg=>⟨fun hlt=>?_,fun hge=>?_⟩⟩,fun h1=>ke fun hh=>?_⟩⟩⟩⟩
  ·have h0:=N7 h0;exact hb false (by omega) (by simp[h0])
  ·have h3:=N7 h3;exact hb false (by omega) (by simp[h3])
  ·have h2:=N7 h2;exact hb true (by omega) (by simp[h2])
  ·obtain⟨g0,g1⟩:=hg;have hlt:=N7 hlt;refine⟨⟨g0,by omega⟩,by simp only[aU,bG];omega,g+1,⟨by omega,by omega⟩,by omega,rfl,EW g0 (by omega),rfl,rfl,rfl⟩
  ·obtain⟨g0,g1⟩:=hg;have hge:¬g<16:=N6 hge;have h1:=N7 h1;have e:g=16:=by omega
   subst e;have he:=yM (o:=o) (n:=n) (by omega) (by omega) (by omega) (by omega) (by omega) (by omega) h1
   exact⟨fun hn=>ke (by rw[he];simpa using hn),fun hy=>tq (by rw[he];simpa using hy)⟩
  ·have:=fA.1 hh;have h0:¬o.kind=0:=N6 h0;have h1:¬o.kind=1:=N6 h1;have h2:¬o.kind=2:=N6 h2;have h3:¬o.kind=3:=N6 h3;omega
theorem vh:bV Try.prog 25 EX:=
 lh uV (fR .i64) (fun _ _=>rfl) fun o n _ _=>aL (inl:=bz) (ann:=(jM [(25,12,FL [1,2,51] (fun g=> [(52,.it .i64 g),(5,.bo (jG o n g))]) wg 16)])) (an Ht (an re (an hJ aB))) (GM o n) (by kernel_rfl)
end Go.Proofs.Ytmfbohanboiklaa
