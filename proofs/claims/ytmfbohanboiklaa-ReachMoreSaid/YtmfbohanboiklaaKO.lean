import Derived.Test.YtmfbohanboiklaaSxF
set_option linter.unusedSimpArgs false
set_option linter.unusedVariables false
namespace Go.Sx
def cF (h:Bool) (n m:Int):Bool:=if h then decide (0<=n)&&decide (n<=m)else decide (n=0)
def bG (n:Int):Bool:=decide (2<=n)&&decide (n<=7)
def lE (n:Int):Bool:=decide (n=2)||decide (n=3)
def cP (n:Int):Bool:=decide (n=7)
def eV (n:Int):Bool:=decide (n=1)||decide (n=6)
def fU (n:Int):Int:=if n=2 then 7 else if n=3 then 1 else 0
def aw (k:Key):Bool:=
 decide (0<=k.kind)&&decide (k.kind<=10)&&decide (0<=k.rights)&&decide (k.rights<=fU k.kind)&&(eV k.kind||decide (k.value=0))&&
 cF (bG k.kind) k.oid 63&&cF (bG k.kind) k.count 4294967295&&cF (cP k.kind) k.call 4294967295
def ba (k:Key):Int:=if aw k then 0 else 2
def aD (k:Key):Int:=if aw k&&bG k.kind then k.oid else -1
def iO (k:Key):Int:=if aD k<0 then 0 else if k.kind=3 then 2 else 1
def bL (k:Key) (o:Obj):Bool:=
 aw k&&(decide (aD k<0)||(decide (o.kind=iO k)&&decide (o.count=k.count)&&(!decide (k.kind=7)||decide (o.calls=k.call))))
def Ig (k:Key):Bool:=decide (0<=k.kind)&&decide (k.kind<=10)
def ie (n:Nat):ByteArray:=
 match n with
 |0=> "void".toUTF8
 |1=> "number".toUTF8
 |2=> "node".toUTF8
 |3=> "page".toUTF8
 |4=> "bank".toUTF8
 |5=> "proc".toUTF8
 |6=> "start".toUTF8
 |7=> "resume".toUTF8
 |8=> "discrim".toUTF8
 |9=> "clock".toUTF8
 |10=> "check".toUTF8
 |_=>ByteArray.empty
def kd (s:ByteArray) (a b c d:Bool) (m w:Int):V:= .ag [.st s,.cb a,.cb b,.cb c,.cb d,.ci .i64 m,.ci .i64 w]
def vX:V:= .ag [kd (ie 0) false false false false 0 0,kd (ie 1) false false false true 0 0,kd (ie 2) true true false false 7 1,kd (ie 3) true true false false 1 2,
 kd (ie 4) true false false false 0 1,kd (ie 5) true false false false 0 1,kd (ie 6) true false false true 0 1,kd (ie 7) true false true false 0 1,
 kd (ie 8) false false false false 0 0,kd (ie 9) false false false false 0 0,kd (ie 10) false false false false 0 0]
def rl (k:Key):ByteArray:=if Ig k then ie k.kind.toNat else ByteArray.empty
def ma (n:Int):Int:=if n=3 then 2 else if 2<=n/\n<=7 then 1 else 0
def DG:Ct:=Ml toBool (rI .i64) (rI .i64) fun h n m=> .bo (cF h n m)
def KZ:Ct:=FG rK fun k=> .tp [.ag [.st (rl k),.bo (bG k.kind),.bo (lE k.kind),.bo (cP k.kind),.bo (eV k.kind),.it .i64 (fU k.kind),.it .i64 (ma k.kind)],.bo (aw k)]
def K8:Ct:=FG (rI .i64) fun n=> .tp [.bo (bG n),.bo (lE n),.bo (cP n),.bo (eV n)]
def Il:Ct:=FG rK fun k=> .it .i64 (ba k)
def aX (k:Key):Bool:=aw k&&bG k.kind
def ea (k:Key):Int:=if aX k then k.oid else 0
def EE:Ct:=FG rK fun k=> .tp [.it .i64 (ea k),.bo (aX k)]
def Dh:Ct:=FG rK fun k=> .it .i64 (aD k)
def C7:Ct:=FG rK fun k=> .it .i64 (iO k)
def w7:Ct:=Iy rK rO fun k o=> .bo (bL k o)
theorem wrap_i64 {n:Int} (h:bE .i64 n):IntKind.wrap .i64 n=n:=by
 have:=h;simp only[bE]at this;unfold IntKind.wrap;simp[IntKind.bits,IntKind.signed];omega
theorem nj {r:Int} (j:Nat) (hj:j<63) (h0:0<=r) (h1:r<=9223372036854775807):b7 .andNot .i64 r ((2^j-1:Nat):Int)=0↔r<2^j:=by
 obtain⟨n,rfl⟩:=Int.eq_ofNat_of_zero_le h0;have hn:n<2^64:=by omega
 have hbit:∀i,(BitVec.ofInt 64 (n:Int)).getLsbD i=n.testBit i:=by
  intro i;rw[BitVec.ofInt_natCast,BitVec.getLsbD_ofNat];by_cases hi:i<64
  ·simp[hi]
  ·rw[Nat.testBit_lt_two_pow (Nat.lt_of_lt_of_le hn (Nat.pow_le_pow_right (by omega) (by omega)))];simp
 have hx:(BitVec.ofInt 64 (n:Int) &&& ~~~BitVec.ofInt 64 ((2^j-1:Nat):Int)).toNat=0↔n<2^j:=by
  constructor
  ·intro h;refine Nat.lt_pow_two_of_testBit _ fun i hi=>?_
   rcases Nat.lt_or_ge i 64 with h64|h64
   ·have h2:(BitVec.ofInt 64 (n:Int) &&& ~~~BitVec.ofInt 64 ((2^j-1:Nat):Int)).getLsbD i=false:=by
     rw[BitVec.getLsbD,h];simp
    rw[BitVec.getLsbD_and,hbit,BitVec.getLsbD_not,BitVec.ofInt_natCast,BitVec.getLsbD_ofNat,Nat.testBit_two_pow_sub_one]at h2;simp only[h64,decide_true,Bool.true_and,show¬i<j by omega,decide_false,Bool.not_false,Bool.and_true]at h2
    exact h2
   ·exact Nat.testBit_lt_two_pow (Nat.lt_of_lt_of_le hn (Nat.pow_le_pow_right (by omega) h64))
  ·intro h
   have:BitVec.ofInt 64 (n:Int) &&& ~~~BitVec.ofInt 64 ((2^j-1:Nat):Int)=0#64:=by
    refine BitVec.eq_of_getLsbD_eq fun i hi=>?_
    rw[BitVec.getLsbD_and,hbit,BitVec.getLsbD_not,BitVec.ofInt_natCast,BitVec.getLsbD_ofNat,Nat.testBit_two_pow_sub_one];by_cases hij:i<j
    ·simp[hij,hi]
    ·rw[Nat.testBit_lt_two_pow (Nat.lt_of_lt_of_le h (Nat.pow_le_pow_right (by omega) (by omega)))];simp
   rw[this];rfl
 have hle:(BitVec.ofInt 64 (n:Int) &&& ~~~BitVec.ofInt 64 ((2^j-1:Nat):Int)).toNat<=n:=by
  rw[BitVec.toNat_and];refine Nat.le_trans Nat.and_le_left ?_;rw[BitVec.ofInt_natCast,BitVec.toNat_ofNat];exact Nat.mod_le _ _
 have hp:((2^j:Nat):Int)=(2:Int)^j:=by simp
 change IntKind.wrap .i64 (((BitVec.ofInt 64 (n:Int) &&& ~~~BitVec.ofInt 64 ((2^j-1:Nat):Int)).toNat:Nat):Int)=0↔_
 generalize (BitVec.ofInt 64 (n:Int) &&& ~~~BitVec.ofInt 64 ((2^j-1:Nat):Int)).toNat=x at *
 rw[wrap_i64 (by simp only[bE];omega),<-hp]
 omega
theorem Gs {r:Int} (h0:0<=r) (h1:r<=9223372036854775807):b7 .andNot .i64 r 7=0↔r<=7:=by
 have:=nj 3 (by omega) h0 h1
 rw[show((2^3-1:Nat):Int)=7 from rfl,show(2:Int)^3=8 from rfl]at this;rw[this];omega
theorem G5 {r:Int} (h0:0<=r) (h1:r<=9223372036854775807):b7 .andNot .i64 r 1=0↔r<=1:=by
 have:=nj 1 (by omega) h0 h1
 rw[show((2^1-1:Nat):Int)=1 from rfl,show(2:Int)^1=2 from rfl]at this;rw[this];omega
theorem F7 {r:Int} (h0:0<=r) (h1:r<=9223372036854775807):b7 .andNot .i64 r 0=0↔r<=0:=by
 have:=nj 0 (by omega) h0 h1
 rw[show((2^0-1:Nat):Int)=0 from rfl,show(2:Int)^0=1 from rfl]at this;rw[this];omega
theorem EW {r m:Int} {b:Bool} (h:0<=r->(b=decide (r<=m))):(decide (0<=r)&&b)=(decide (0<=r)&&decide (r<=m)):=by
 by_cases h0:0<=r
 ·rw[h h0]
 ·simp[h0]
end Go.Sx
namespace Go.Proofs.Ytmfbohanboiklaa
open Go.Sx
set_option maxRecDepth 100000
theorem BO (h:Bool) (n m:Int):
 (h&&decide (0<=n)&&decide (n<=m)|| !h&&decide (n=0))=cF h n m:=by
 unfold cF;cases h<;>simp
theorem Cl:bW Try.prog 73 DG:=
 Iz E7 (fI .i64) (fI .i64) (fun _ _ _=>rfl) fun h n m _ _ _=>aM (inl:=bu) (ann:=bZ) aA (BO h n m) (by kernel_rfl)
theorem D2:bW Try.prog 72 (Kz vX):=
 Jy rfl (aM (inl:=bu) (ann:=bZ) aA (G:=vX=vX) rfl (by kernel_rfl):ai _ _ _ _ (fun v _=>v=vX) (fun _ _=>False))
theorem Kj (k:Key) (hk:k.wf):
 ((decide (k.kind<0)||decide (10<k.kind))=true->
   {data:= {toList:= []}}=rl k/\
    false=bG k.kind/\
     false=lE k.kind/\
      false=cP k.kind/\false=eV k.kind/\0=fU k.kind/\0=ma k.kind/\false=aw k)/\
   ((decide (k.kind<0)||decide (10<k.kind))=false->
     (0<=k.kind/\k.kind< ↑11)/\
      aq [ie 0,ie 1,ie 2,ie 3,ie 4,ie 5,ie 6,ie 7,ie 8,ie 9,ie 10] k.kind.toNat
          {data:= {toList:= []}}=
        rl k/\
       aq [false,false,true,true,true,true,true,true,false,false,false] k.kind.toNat false=
         bG k.kind/\
        aq [false,false,true,true,false,false,false,false,false,false,false] k.kind.toNat false=
          lE k.kind/\
         aq [false,false,false,false,false,false,false,true,false,false,false] k.kind.toNat false=
           cP k.kind/\
          aq [false,true,false,false,false,false,true,false,false,false,false] k.kind.toNat false=
            eV k.kind/\
           aq [0,0,7,1,0,0,0,0,0,0,0] k.kind.toNat 0=fU k.kind/\
            aq [0,0,1,2,1,1,1,1,0,0,0] k.kind.toNat 0=ma k.kind/\
             (cF
                (aq [false,false,true,true,true,true,true,true,false,false,false]
                 k.kind.toNat false)
                k.oid 63&&
                cF
                 (aq [false,false,true,true,true,true,true,true,false,false,false]
                  k.kind.toNat false)
                 k.count 4294967295&&
                cF
                 (aq [false,false,false,false,false,false,false,true,false,false,false]
                  k.kind.toNat false)
                 k.call 4294967295&&
                decide (0<=k.rights)&&
                decide
                 (b7 BinOp.andNot IntKind.i64 k.rights
                   (aq [0,0,7,1,0,0,0,0,0,0,0] k.kind.toNat 0)=
                  0)&&
               (aq [false,true,false,false,false,false,true,false,false,false,false] k.kind.toNat
                 false||
                decide (k.value=0)))=
              aw k):=by
 obtain⟨kind,oid,count,call,rights,value⟩:=k;have hr:rights<=9223372036854775807:=hk.2.2.2.2.1.2;simp only;have he:(ByteArray.empty:ByteArray)= {data:= {toList:= []}}:=rfl;refine⟨fun h=>?_,fun h=>?_⟩
 ·simp only[Bool.or_eq_true,NQ]at h;refine⟨?_,?_,?_,?_,?_,?_,?_,?_⟩<;>simp only[rl,Ig,bG,lE,cP,eV,fU,ma,aw]<;>grind
 ·simp only[Bool.or_eq_false_iff,decide_eq_false_iff_not]at h;have hb:∀m,(0<=rights->(decide (b7 .andNot .i64 rights m=0))=decide (rights<=m))->(decide (0<=rights)&&decide (b7 .andNot .i64 rights m=0))=(decide (0<=rights)&&decide (rights<=m)):=fun m hm=>EW hm
  have h7:=hb 7 fun h0=>by rw[decide_eq_decide];exact Gs h0 hr
  have h1:=hb 1 fun h0=>by rw[decide_eq_decide];exact G5 h0 hr
  have h0:=hb 0 fun h0=>by rw[decide_eq_decide];exact F7 h0 hr
  have hc:kind=0\/kind=1\/kind=2\/kind=3\/kind=4\/kind=5\/kind=6\/kind=7\/kind=8\/kind=9\/kind=10:=by omega
  rcases hc with rfl|rfl|rfl|rfl|rfl|rfl|rfl|rfl|rfl|rfl|rfl<;>
   refine⟨⟨by decide,by decide⟩,rfl,rfl,rfl,rfl,rfl,rfl,rfl,?_⟩<;>
   simp only[aq,aw,bG,eV,cP,fU,Int.reduceToNat,List.getD_cons_zero,List.getD_cons_succ,Bool.and_assoc]<;>
   simp+decide [cF]<;>grind
theorem vm:bW Try.prog 61 KZ:=
 j3 gf (fun _=>rfl) fun k hk=>aM (inl:=bu) (ann:=bZ) (ak Cl (ak D2 aA)) (Kj k hk) (by kernel_rfl)
theorem HV (k:Key) (hk:k.wf):
 ((!aw k)=true->2=ba k)/\((!aw k)=false->0=ba k):=by
 unfold ba;cases aw k<;>simp
theorem re:bW Try.prog 47 Il:=
 j3 gf (fun _=>rfl) fun k hk=>aM (inl:=bu) (ann:=bZ) (ak vm aA) (HV k hk) (by kernel_rfl)
theorem Bl (k:Key) (hk:k.wf):
 ((!aw k|| !bG k.kind)=true->0=ea k/\false=aX k)/\
   ((!aw k|| !bG k.kind)=false->k.oid=ea k/\true=aX k):=by
 unfold ea aX;cases aw k<;>cases bG k.kind<;>simp
theorem jA:bW Try.prog 40 EE:=
 j3 gf (fun _=>rfl) fun k hk=>aM (inl:=bu) (ann:=bZ) (ak vm aA) (Bl k hk) (by kernel_rfl)
theorem zo (k:Key) (o:Sx.Obj) (hk:k.wf):
 ((!aw k)=true->false=bL k o)/\
   ((!aw k)=false->
     ((!bG k.kind)=true->true=bL k o)/\
       ((!bG k.kind)=false->
         (decide (o.kind=ma k.kind)&&decide (o.count=k.count)&&
           (!cP k.kind||decide (o.calls=k.call)))=
          bL k o)):=by
 cases hok:aw k
 ·simp[bL,hok]
 ·have h0:bG k.kind=true->0<=k.oid:=fun h=>by
   simp only[aw,cF,h,if_true,NP,NQ]at hok;omega
  simp only[bL,iO,aD,ma,cP,hok,Bool.true_and];simp only[bG]at *;grind
theorem sS:bW Try.prog 86 w7:=
 np gf u7 (fun _ _=>rfl) fun k o hk _=>aM (inl:=bu) (ann:=bZ) (ak vm aA) (zo k o hk) (by kernel_rfl)
theorem Kr (n:Int):
 (decide (2<=n)&&decide (n<=7))=bG n/\
  (decide (n=2)||decide (n=3))=lE n/\
   decide (n=7)=cP n/\(decide (n=1)||decide (n=6))=eV n:=by
 exact⟨rfl,rfl,rfl,rfl⟩
theorem EV:bW Try.prog 22 K8:=
 j3 (fI .i64) (fun _=>rfl) fun n _=>aM (inl:=bu) (ann:=bZ) aA (Kr n) (by kernel_rfl)
theorem Gm (k:Key) (hk:k.wf):
 (lE k.kind=true->
   (decide (k.kind=3)=true->
     ((decide (k.kind<0)||decide (10<k.kind)||decide (k.rights<0)||decide (1<k.rights)||
        !eV k.kind&& !decide (k.value=0))=
        true->
       2=ba k)/\
       ((decide (k.kind<0)||decide (10<k.kind)||decide (k.rights<0)||decide (1<k.rights)||
          !eV k.kind&& !decide (k.value=0))=
         false->
         ((bG k.kind&&
            (decide (k.oid<0)||decide (64<=k.oid)||decide (k.count<0)||
             decide (4294967295<k.count))||
               !bG k.kind&&(!decide (k.oid=0)|| !decide (k.count=0)))=
            true->
           2=ba k)/\
           ((bG k.kind&&
                (decide (k.oid<0)||decide (64<=k.oid)||decide (k.count<0)||
                 decide (4294967295<k.count))||
              !bG k.kind&&(!decide (k.oid=0)|| !decide (k.count=0)))=
             false->
             ((cP k.kind&&(decide (k.call<0)||decide (4294967295<k.call))||
                  !cP k.kind&& !decide (k.call=0))=
                true->
               2=ba k)/\
               ((cP k.kind&&(decide (k.call<0)||decide (4294967295<k.call))||
                  !cP k.kind&& !decide (k.call=0))=
                 false->
                 0=ba k))))/\
    (decide (k.kind=3)=false->
     ((decide (k.kind<0)||decide (10<k.kind)||decide (k.rights<0)||decide (7<k.rights)||
        !eV k.kind&& !decide (k.value=0))=
        true->
       2=ba k)/\
       ((decide (k.kind<0)||decide (10<k.kind)||decide (k.rights<0)||decide (7<k.rights)||
          !eV k.kind&& !decide (k.value=0))=
         false->
         ((bG k.kind&&
            (decide (k.oid<0)||decide (64<=k.oid)||decide (k.count<0)||
             decide (4294967295<k.count))||
               !bG k.kind&&(!decide (k.oid=0)|| !decide (k.count=0)))=
            true->
           2=ba k)/\
           ((bG k.kind&&
                (decide (k.oid<0)||decide (64<=k.oid)||decide (k.count<0)||
                 decide (4294967295<k.count))||
              !bG k.kind&&(!decide (k.oid=0)|| !decide (k.count=0)))=
             false->
             ((cP k.kind&&(decide (k.call<0)||decide (4294967295<k.call))||
                  !cP k.kind&& !decide (k.call=0))=
                true->
               2=ba k)/\
               ((cP k.kind&&(decide (k.call<0)||decide (4294967295<k.call))||
                  !cP k.kind&& !decide (k.call=0))=
                 false->
                 0=ba k)))))/\
  (lE k.kind=false->
   (decide (k.kind=3)=true->
     ((decide (k.kind<0)||decide (10<k.kind)||decide (k.rights<0)||decide (1<k.rights)||
        !eV k.kind&& !decide (k.value=0))=
        true->
       2=ba k)/\
       ((decide (k.kind<0)||decide (10<k.kind)||decide (k.rights<0)||decide (1<k.rights)||
          !eV k.kind&& !decide (k.value=0))=
         false->
         ((bG k.kind&&
            (decide (k.oid<0)||decide (64<=k.oid)||decide (k.count<0)||
             decide (4294967295<k.count))||
               !bG k.kind&&(!decide (k.oid=0)|| !decide (k.count=0)))=
            true->
           2=ba k)/\
           ((bG k.kind&&
                (decide (k.oid<0)||decide (64<=k.oid)||decide (k.count<0)||
                 decide (4294967295<k.count))||
              !bG k.kind&&(!decide (k.oid=0)|| !decide (k.count=0)))=
             false->
             ((cP k.kind&&(decide (k.call<0)||decide (4294967295<k.call))||
                  !cP k.kind&& !decide (k.call=0))=
                true->
               2=ba k)/\
               ((cP k.kind&&(decide (k.call<0)||decide (4294967295<k.call))||
                  !cP k.kind&& !decide (k.call=0))=
                 false->
                 0=ba k))))/\
    (decide (k.kind=3)=false->
     ((decide (k.kind<0)||decide (10<k.kind)||decide (k.rights<0)||decide (0<k.rights)||
        !eV k.kind&& !decide (k.value=0))=
        true->
       2=ba k)/\
       ((decide (k.kind<0)||decide (10<k.kind)||decide (k.rights<0)||decide (0<k.rights)||
          !eV k.kind&& !decide (k.value=0))=
         false->
         ((bG k.kind&&
            (decide (k.oid<0)||decide (64<=k.oid)||decide (k.count<0)||
             decide (4294967295<k.count))||
               !bG k.kind&&(!decide (k.oid=0)|| !decide (k.count=0)))=
            true->
           2=ba k)/\
           ((bG k.kind&&
                (decide (k.oid<0)||decide (64<=k.oid)||decide (k.count<0)||
                 decide (4294967295<k.count))||
              !bG k.kind&&(!decide (k.oid=0)|| !decide (k.count=0)))=
             false->
             ((cP k.kind&&(decide (k.call<0)||decide (4294967295<k.call))||
                  !cP k.kind&& !decide (k.call=0))=
                true->
               2=ba k)/\
               ((cP k.kind&&(decide (k.call<0)||decide (4294967295<k.call))||
                  !cP k.kind&& !decide (k.call=0))=
                 false->
                 0=ba k))))):=by
 simp only[ba,aw,cF,fU,lE];rcases Bool.eq_false_or_eq_true (bG k.kind)with hA|hA<;>rcases Bool.eq_false_or_eq_true (cP k.kind)with hB|hB<;>rcases Bool.eq_false_or_eq_true (eV k.kind)with hC|hC<;>simp only[hA,hB,hC,Bool.true_and,Bool.false_and,Bool.not_true,Bool.not_false,Bool.or_false,Bool.false_or,Bool.true_or,if_true,Bool.false_eq_true,if_false,Bool.and_true]<;>grind
theorem nT:bW Try.prog 9 Il:=
 j3 gf (fun _=>rfl) fun k hk=>aM (inl:=bu) (ann:=bZ) (ak EV aA) (Gm k hk) (by kernel_rfl)
theorem BA (k:Key) (hk:k.wf):
 ((!decide (ba k=0)|| !bG k.kind)=true-> -1=aD k)/\
   ((!decide (ba k=0)|| !bG k.kind)=false->k.oid=aD k):=by
 unfold aD ba;cases aw k<;>cases bG k.kind<;>simp
theorem jq:bW Try.prog 56 Dh:=
 j3 gf (fun _=>rfl) fun k hk=>aM (inl:=bu) (ann:=bZ) (ak EV (ak nT aA)) (BA k hk) (by kernel_rfl)
theorem Bw (k:Key) (hk:k.wf):
 (decide (aD k<0)=true->0=iO k)/\
  (decide (aD k<0)=false->
   (decide (k.kind=3)=true->2=iO k)/\(decide (k.kind=3)=false->1=iO k)):=by
 unfold iO;grind
theorem BV:bW Try.prog 85 C7:=
 j3 gf (fun _=>rfl) fun k hk=>aM (inl:=bu) (ann:=bZ) (ak jq aA) (Bw k hk) (by kernel_rfl)
theorem yp (k:Key) (o:Sx.Obj) (hk:k.wf):
 ((!decide (ba k=0))=true->false=bL k o)/\
   ((!decide (ba k=0))=false->
     (decide (aD k<0)=true->true=bL k o)/\
      (decide (aD k<0)=false->
       (decide (o.kind=iO k)&&decide (o.count=k.count)&&
         (!decide (k.kind=7)||decide (o.calls=k.call)))=
        bL k o)):=by
 unfold bL ba;cases aw k<;>grind
theorem zF:bW Try.prog 71 w7:=
 np gf u7 (fun _ _=>rfl) fun k o hk _=>aM (inl:=bu) (ann:=bZ) (ak nT (ak jq (ak BV aA))) (yp k o hk) (by kernel_rfl)
end Go.Proofs.Ytmfbohanboiklaa
namespace Go.Sx
def fy (kind n:Int) (k:Key):Bool:=aw k&&decide (aD k<n)&&(decide (kind=1)||decide (k=void))
def dR (o:Obj) (n:Int):Bool:=
 decide (1<=n)&&decide (n<=64)&&decide (0<=o.kind)&&decide (o.kind<=3)&&decide (0<=o.count)&&decide (o.count<=4294967295)&&decide (0<=o.calls)&&decide (o.calls<=4294967295)&&
 (decide (o.kind=1)||decide (o.calls=0))&&(List.range 16).all (fun i=>fy o.kind n (o.slots.at i))&&
 (List.range 64).all (fun i=>decide (o.kind=1)||decide (o.kind=2)||decide (o.bytes.at i=0))
def bk (o:Obj) (n:Int):Int:=if dR o n then 0 else 2
def fx (o:Obj) (b:Bool):Bool:=decide (o.slots=eZ)&&(b||decide (o.bytes=gI))&&decide (o.calls=0)
def vJ (o:Obj) (n:Int) (i:Int):Prop:=0<=i/\i<=16/\∀j:Nat,(j:Int)<i->fy o.kind n (o.slots.at j)=true
def wi (o:Obj) (n:Int) (i:Int):Prop:=0<=i/\i<=64/\(∀j:Nat,j<16->fy o.kind n (o.slots.at j)=true)/\∀j:Nat,(j:Int)<i->(o.kind=1\/o.kind=2\/o.bytes.at j=0)
def jC (o:Obj) (n:Int) (i:Int):Bool:=(List.range i.toNat).all fun j=>aw (o.slots.at j)&&decide (aD (o.slots.at j)<n)
def wg (i:Int):Prop:=0<=i/\i<=16
def IY:Ct:=Iy rO toBool fun o b=> .bo (fx o b)
def C6:Ct:=Iy rO (rI .i64) fun o n=> .it .i64 (bk o n)
theorem fi {o:Obj} {n:Int}:dR o n=true↔1<=n/\n<=64/\0<=o.kind/\o.kind<=3/\0<=o.count/\o.count<=4294967295/\0<=o.calls/\o.calls<=4294967295/\
  (o.kind=1\/o.calls=0)/\(∀i,i<16->fy o.kind n (o.slots.at i)=true)/\∀i,i<64->(o.kind=1\/o.kind=2)\/o.bytes.at i=0:=by
 simp only[dR,NP,NQ,Bool.or_eq_true,List.all_eq_true,List.mem_range,and_assoc]
theorem jO {o:Obj} {n:Int} (h:¬dR o n=true):2=bk o n:=by simp[bk,h]
theorem sX {o:Obj} {n:Int} (h:dR o n=true):0=bk o n:=by simp[bk,h]
theorem BZ (kind n:Int) (k:Key):(!decide (ba k=0)||decide (n<=aD k)|| !decide (kind=1)&& !tX k void)= !fy kind n k:=by
 unfold fy ba tX;cases aw k<;>grind
theorem GW (b:UInt8):decide (GY b=0)=decide (b=0):=by
 rw[decide_eq_decide,GY];constructor
 ·intro h;have:b.toNat=0:=by omega
  exact UInt8.toNat_inj.1 (by simpa using this)
 ·rintro rfl;rfl
theorem Gw {s:b6}:s=eZ↔ ∀i,i<16->s.at i=void:=by
 constructor
 ·rintro rfl i _;exact nw i
 ·intro h;refine Vector.ext fun i hi=>?_
  have:=h i hi;unfold b6.at at this;simp only[eZ,Vector.getElem_replicate];rw[<-this];simp[hi]
theorem GU {s:Bytes}:s=gI↔ ∀i,i<64->s.at i=0:=by
 constructor
 ·rintro rfl i hi
  unfold Bytes.at gI;simp[hi]
 ·intro h;refine Vector.ext fun i hi=>?_
  have:=h i hi;unfold Bytes.at at this;simp only[gI,Vector.getElem_replicate];rw[<-this];simp[hi]
theorem zX:aw void=true/\aD void= -1:=by decide
theorem qc {kind n:Int} (hk:kind≠1) (hn:1<=n) (k:Key):fy kind n k=true↔k=void:=by
 unfold fy;simp only[NP,NQ,Bool.or_eq_true];constructor
 ·rintro⟨_,h|h⟩
  ·exact absurd h hk
  ·exact h
 ·rintro rfl
  exact⟨⟨zX.1,by rw[zX.2];omega⟩,.inr rfl⟩
theorem Ei {o:Obj} {b:Bool}:fx o b=true↔(∀i,i<16->o.slots.at i=void)/\(b=true\/∀i,i<64->o.bytes.at i=0)/\o.calls=0:=by
 simp only[fx,NP,NQ,Bool.or_eq_true,Gw,GU,and_assoc]
theorem zt {o:Obj} {n:Int} (h1:1<=n) (h2:n<=64) (h3:0<=o.count) (h4:o.count<=4294967295) (h5:0<=o.calls) (h6:o.calls<=4294967295) {b:Bool} (hk:0<=o.kind/\o.kind<=3/\o.kind≠1) (hb:b=decide (o.kind=2)):
  dR o n=fx o b:=by
 rw[Bool.eq_iff_iff,fi,Ei];subst hb;constructor
 ·rintro⟨_,_,_,_,_,_,_,_,h,hs,hz⟩
  refine⟨fun i hi=>(qc hk.2.2 h1 _).1 (hs i hi),?_,h.resolve_left hk.2.2⟩
  by_cases h2:o.kind=2
  ·exact .inl (by simp[h2])
  ·exact .inr fun i hi=>(hz i hi).resolve_left fun h=>h.elim hk.2.2 h2
 ·rintro⟨hs,hz,hc⟩
  refine⟨h1,h2,hk.1,hk.2.1,h3,h4,h5,h6,.inr hc,fun i hi=>(qc hk.2.2 h1 _).2 (hs i hi),fun i hi=>?_⟩
  rcases hz with h|h
  ·exact .inl (.inr (by simpa using h))
  ·exact .inr (h i hi)
theorem yq {o:Obj} {n:Int} (h1:1<=n) (h2:n<=64) (h3:0<=o.count) (h4:o.count<=4294967295) (h5:0<=o.calls) (h6:o.calls<=4294967295) (hk:o.kind=1):dR o n=jC o n 16:=by
 rw[Bool.eq_iff_iff,fi];simp only[jC,List.all_eq_true,List.mem_range,hk,fy,NP,decide_true,Bool.true_or,and_true];constructor
 ·rintro⟨_,_,_,_,_,_,_,_,_,hs,_⟩
  exact fun i hi=>hs i hi
 ·intro hs;exact⟨h1,h2,by omega,by omega,h3,h4,h5,h6,.inl trivial,fun i hi=>hs i hi,fun i hi=> .inl (.inl trivial)⟩
theorem Dl {o:Obj} {n g:Int}:(jC o n g&&decide (ba (o.slots.at g.toNat)=0)&&(!aX (o.slots.at g.toNat)||decide (ea (o.slots.at g.toNat)<n)))=
  (jC o n g&&(aw (o.slots.at g.toNat)&&(!aX (o.slots.at g.toNat)||decide ((o.slots.at g.toNat).oid<n)))):=by
 unfold ba ea;cases aw (o.slots.at g.toNat)<;>cases aX (o.slots.at g.toNat)<;>simp
theorem DA {o:Obj} {n g:Int} (h0:0<=g) (hn:1<=n):(jC o n g&&decide (ba (o.slots.at g.toNat)=0)&&(!aX (o.slots.at g.toNat)||decide (ea (o.slots.at g.toNat)<n)))=jC o n (g+1):=by
 rw[Dl];unfold jC;rw[show(g+1).toNat=g.toNat+1 by omega,List.range_succ,List.all_append]
 simp only[List.all_cons,List.all_nil,Bool.and_true];congr 1
 unfold aD aX;cases aw (o.slots.at g.toNat)
 ·rfl
 ·cases bG (o.slots.at g.toNat).kind
  ·simp;omega
  ·simp
end Go.Sx
namespace Go.Proofs.Ytmfbohanboiklaa
open Go.Sx
set_option maxRecDepth 100000
theorem Hq (o:Sx.Obj) (b:Bool):
 (wM o.slots eZ&&(b||xH o.bytes gI)&&decide (o.calls=0))=fx o b:=by
 unfold fx wM xH;rfl
theorem Hg:bW Try.prog 46 IY:=
 np u7 E7 (fun _ _=>rfl) fun o b _ _=>aM (inl:=bu) (ann:=bZ) aA (Hq o b) (by kernel_rfl)
theorem Eu (o:Sx.Obj) (n:Int):
 ((decide (n<1)||decide (64<n)||decide (o.kind<0)||decide (3<o.kind)||decide (o.count<0)||
             decide (4294967295<o.count)||
            decide (o.calls<0)||
           decide (4294967295<o.calls)||
    !decide (o.kind=1)&& !decide (o.calls=0))=
    true->
   2=bk o n)/\
   ((decide (n<1)||decide (64<n)||decide (o.kind<0)||decide (3<o.kind)||decide (o.count<0)||
              decide (4294967295<o.count)||
             decide (o.calls<0)||
      decide (4294967295<o.calls)||
      !decide (o.kind=1)&& !decide (o.calls=0))=
     false->
     (∃g,vJ o n g/\n=n/\o.kind=o.kind/\0=g/\o=o)/\
      ∀(g:Int),
       vJ o n g->
        (decide (g<16)=true->
          (0<=g/\g< ↑16)/\
           ((!!decide (ba (o.slots.at g.toNat)=0))=true->0<=g/\g< ↑16)/\
             ((!decide (o.kind=1)&&
                !(!decide (ba (o.slots.at g.toNat)=0)||
                  decide (n<=aD (o.slots.at g.toNat))))=
                true->
               0<=g/\g< ↑16)/\
               ((!decide (ba (o.slots.at g.toNat)=0)||decide (n<=aD (o.slots.at g.toNat))||
                  !decide (o.kind=1)&& !tX (o.slots.at g.toNat) void)=
                  true->
                 2=bk o n)/\
                 ((!decide (ba (o.slots.at g.toNat)=0)||decide (n<=aD (o.slots.at g.toNat))||
                    !decide (o.kind=1)&& !tX (o.slots.at g.toNat) void)=
                   false->
                   aO IntKind.i64 (g+1)/\
                    ∃g',
                     vJ o n g'/\
                      (16-g').toNat<(16-g).toNat/\n=n/\o.kind=o.kind/\g+1=g'/\o=o))/\
         (decide (g<16)=false->
          (∃g,wi o n g/\n=n/\o.kind=o.kind/\0=g/\o=o)/\
           ∀(g:Int),
            wi o n g->
             (decide (g<64)=true->
               ((!decide (o.kind=1)&& !decide (o.kind=2))=true->0<=g/\g< ↑64)/\
                 ((!decide (o.kind=1)&& !decide (o.kind=2)&&
                    !decide (GY (o.bytes.at g.toNat)=0))=
                    true->
                   2=bk o n)/\
                   ((!decide (o.kind=1)&& !decide (o.kind=2)&&
                      !decide (GY (o.bytes.at g.toNat)=0))=
                     false->
                     aO IntKind.i64 (g+1)/\
                      ∃g',
                       wi o n g'/\
                        (64-g').toNat<(64-g).toNat/\
                         n=n/\o.kind=o.kind/\g+1=g'/\o=o))/\
              (decide (g<64)=false->0=bk o n))):=by
 refine⟨fun h=>jO fun hh=>?_,fun h=>⟨⟨0,⟨by omega,by omega,fun j hj=>by omega⟩,rfl,rfl,rfl,rfl⟩,fun g hg=>⟨fun hlt=>?_,fun hge=>?_⟩⟩⟩
 ·have:=fi.1 hh;simp only[Bool.or_eq_true,NP,Bool.not_eq_true',NQ,decide_eq_false_iff_not]at h;omega
 ·obtain⟨g0,g1,g2⟩:=hg;have hlt:=NU hlt;rw[BZ];refine⟨⟨g0,by omega⟩,fun _=>⟨g0,by omega⟩,fun _=>⟨g0,by omega⟩,fun hbad=>jO fun hh=>?_,fun hok=>⟨?_,g+1,⟨by omega,by omega,fun j hj=>?_⟩,by omega,rfl,rfl,rfl,rfl⟩⟩
  ·have:=(fi.1 hh).2.2.2.2.2.2.2.2.2.1 g.toNat (by omega)
   rw[this]at hbad;simp at hbad
  ·simp only[aO,bE];omega
  ·by_cases e:(j:Int)<g
   ·exact g2 j e
   ·have:j=g.toNat:=by omega
    subst this;simpa using hok
 ·obtain⟨g0,g1,g2⟩:=hg;have hge:¬g<16:=NT hge;refine⟨⟨0,⟨by omega,by omega,fun j hj=>g2 j (by omega),fun j hj=>by omega⟩,rfl,rfl,rfl,rfl⟩,fun g hg=>⟨fun hlt=>?_,fun hge=>sX ?_⟩⟩
  ·obtain⟨k0,k1,k2,k3⟩:=hg;have hlt:=NU hlt;simp only[GW];refine⟨fun _=>⟨k0,by omega⟩,fun hbad=>jO fun hh=>?_,fun hok=>⟨?_,g+1,⟨by omega,by omega,k2,fun j hj=>?_⟩,by omega,by simp⟩⟩
   ·have:=(fi.1 hh).2.2.2.2.2.2.2.2.2.2 g.toNat (by omega)
    simp only[NP,Bool.not_eq_true',decide_eq_false_iff_not]at hbad;grind
   ·simp only[aO,bE];omega
   ·by_cases e:(j:Int)<g
    ·exact k3 j e
    ·have:j=g.toNat:=by omega
     subst this;simp only[Bool.and_eq_false_iff,Bool.not_eq_false',NQ]at hok;grind
  ·obtain⟨k0,k1,k2,k3⟩:=hg;have hge:¬g<64:=NT hge;simp only[Bool.or_eq_false_iff,Bool.and_eq_false_iff,Bool.not_eq_false',NQ,decide_eq_false_iff_not]at h;refine fi.2 ⟨by omega,by omega,by omega,by omega,by omega,by omega,by omega,by omega,by omega,k2,fun i hi=>?_⟩
   have:=k3 i (by omega)
   grind
theorem Es:bW Try.prog 43 C6:=
 np u7 (fI .i64) (fun _ _=>rfl) fun o n _ _=>aM (inl:=bu) (ann:=(jb [(43,5,Nr [1,2,5] 6 (vJ o n) 16),(43,10,Nr [1,2,5] 7 (wi o n) 64)])) (ak nT (ak jq aA)) (Eu o n) (by kernel_rfl)
theorem HB (o:Sx.Obj) (n:Int):
 ((decide (n<1)||decide (64<n)||decide (o.count<0)||decide (4294967295<o.count)||
           decide (o.calls<0)||
    decide (4294967295<o.calls))=
    true->
   2=bk o n)/\
   ((decide (n<1)||decide (64<n)||decide (o.count<0)||decide (4294967295<o.count)||
      decide (o.calls<0)||
      decide (4294967295<o.calls))=
     false->
     (decide (o.kind=0)=true->
       ((!fx o false)=true->2=bk o n)/\((!fx o false)=false->0=bk o n))/\
      (decide (o.kind=0)=false->
       (decide (o.kind=3)=true->
         ((!fx o false)=true->2=bk o n)/\((!fx o false)=false->0=bk o n))/\
        (decide (o.kind=3)=false->
         (decide (o.kind=2)=true->
           ((!fx o true)=true->2=bk o n)/\((!fx o true)=false->0=bk o n))/\
          (decide (o.kind=2)=false->
           (decide (o.kind=1)=true->
             (∃g,wg g/\n=n/\true=jC o n g/\o.slots=o.slots/\0=g/\o=o)/\
              ∀(g:Int),
               wg g->
                (decide (g<16)=true->
                  (0<=g/\g< ↑16)/\
                   aO IntKind.i64 (g+1)/\
                    ∃g',
                     wg g'/\
                      (16-g').toNat<(16-g).toNat/\
                       n=n/\
                        (jC o n g&&decide (ba (o.slots.at g.toNat)=0)&&
                           (!aX (o.slots.at g.toNat)||
                            decide (ea (o.slots.at g.toNat)<n)))=
                          jC o n g'/\
                         o.slots=o.slots/\g+1=g'/\o=o)/\
                 (decide (g<16)=false->
                  ((!jC o n g)=true->2=bk o n)/\((!jC o n g)=false->0=bk o n)))/\
            (decide (o.kind=1)=false->2=bk o n))))):=by
 refine⟨fun h=>jO fun hh=>?_,fun h=>?_⟩
 ·have:=fi.1 hh;simp only[Bool.or_eq_true,NQ]at h;omega
 ·simp only[Bool.or_eq_false_iff,decide_eq_false_iff_not]at h
  have hb:∀(b:Bool),(0<=o.kind/\o.kind<=3/\o.kind≠1)->b=decide (o.kind=2)->((!fx o b)=true->2=bk o n)/\((!fx o b)=false->0=bk o n):=fun b h1 h2=>by
   have he:=zt (o:=o) (n:=n) (b:=b) (by omega) (by omega) (by omega) (by omega) (by omega) (by omega) h1 h2
   exact⟨fun hn=>jO (by rw[he];simpa using hn),fun hy=>sX (by rw[he];simpa using hy)⟩
  refine⟨fun h0=>?_,fun h0=>⟨fun h3=>?_,fun h3=>⟨fun h2=>?_,fun h2=>⟨fun h1=>⟨⟨0,⟨by omega,by omega⟩,rfl,rfl,rfl,rfl,rfl⟩,fun g hg=>⟨fun hlt=>?_,fun hge=>?_⟩⟩,fun h1=>jO fun hh=>?_⟩⟩⟩⟩
  ·have h0:=NU h0;exact hb false (by omega) (by simp[h0])
  ·have h3:=NU h3;exact hb false (by omega) (by simp[h3])
  ·have h2:=NU h2;exact hb true (by omega) (by simp[h2])
  ·obtain⟨g0,g1⟩:=hg;have hlt:=NU hlt;refine⟨⟨g0,by omega⟩,by simp only[aO,bE];omega,g+1,⟨by omega,by omega⟩,by omega,rfl,DA g0 (by omega),rfl,rfl,rfl⟩
  ·obtain⟨g0,g1⟩:=hg;have hge:¬g<16:=NT hge;have h1:=NU h1;have e:g=16:=by omega
   subst e;have he:=yq (o:=o) (n:=n) (by omega) (by omega) (by omega) (by omega) (by omega) (by omega) h1
   exact⟨fun hn=>jO (by rw[he];simpa using hn),fun hy=>sX (by rw[he];simpa using hy)⟩
  ·have:=fi.1 hh;have h0:¬o.kind=0:=NT h0;have h1:¬o.kind=1:=NT h1;have h2:¬o.kind=2:=NT h2;have h3:¬o.kind=3:=NT h3;omega
theorem vO:bW Try.prog 25 C6:=
 np u7 (fI .i64) (fun _ _=>rfl) fun o n _ _=>aM (inl:=bu) (ann:=(jb [(25,12,FL [1,2,51] (fun g=> [(52,.it .i64 g),(5,.bo (jC o n g))]) wg 16)])) (ak Hg (ak re (ak jA aA))) (HB o n) (by kernel_rfl)
end Go.Proofs.Ytmfbohanboiklaa
