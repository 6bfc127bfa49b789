import Derived.Test.YtghpaegglbbocaaGreatSxF
set_option linter.unusedSimpArgs false
set_option linter.unusedVariables false
namespace Go.Sx
def fG (h:Bool) (n m:Int):Bool:=if h then decide (0<=n)&&decide (n<=m)else decide (n=0)
def dG (n:Int):Bool:=decide (2<=n)&&decide (n<=7)
def nU (n:Int):Bool:=decide (n=2)||decide (n=3)
def gd (n:Int):Bool:=decide (n=7)
def jZ (n:Int):Bool:=decide (n=1)||decide (n=6)
def eP (n:Int):Int:=if n=2 then 7 else if n=3 then 1 else 0
def aT (k:Key):Bool:=
 decide (0<=k.kind)&&decide (k.kind<=10)&&decide (0<=k.rights)&&decide (k.rights<=eP k.kind)&&(jZ k.kind||decide (k.value=0))&&
 fG (dG k.kind) k.oid 63&&fG (dG k.kind) k.count 4294967295&&fG (gd k.kind) k.call 4294967295
def bD (k:Key):Int:=if aT k then 0 else 2
def aY (k:Key):Int:=if aT k&&dG k.kind then k.oid else -1
def fP (k:Key):Int:=if aY k<0 then 0 else if k.kind=3 then 2 else 1
def ca (k:Key) (o:Obj):Bool:=
 aT k&&(decide (aY k<0)||(decide (o.kind=fP k)&&decide (o.count=k.count)&&(!decide (k.kind=7)||decide (o.calls=k.call))))
def RT (k:Key):Bool:=decide (0<=k.kind)&&decide (k.kind<=10)
def mN (n:Nat):ByteArray:=
 match n with
 |0=> "void".toUTF8
 |1=> "number".toUTF8
 |2=> "node".toUTF8
 |3=> "page".toUTF8
 |4=> "bank".toUTF8
 |5=> "proc".toUTF8
 |6=> "start".toUTF8
 |7=> "resume".toUTF8
 |8=> "discrim".toUTF8
 |9=> "clock".toUTF8
 |10=> "check".toUTF8
 |_=>ByteArray.empty
def kd (s:ByteArray) (a b c d:Bool) (m w:Int):V:= .ag [.st s,.cb a,.cb b,.cb c,.cb d,.ci .i64 m,.ci .i64 w]
def AH:V:= .ag [kd (mN 0) false false false false 0 0,kd (mN 1) false false false true 0 0,kd (mN 2) true true false false 7 1,kd (mN 3) true true false false 1 2,
 kd (mN 4) true false false false 0 1,kd (mN 5) true false false false 0 1,kd (mN 6) true false false true 0 1,kd (mN 7) true false true false 0 1,
 kd (mN 8) false false false false 0 0,kd (mN 9) false false false false 0 0,kd (mN 10) false false false false 0 0]
def wy (k:Key):ByteArray:=if RT k then mN k.kind.toNat else ByteArray.empty
def qR (n:Int):Int:=if n=3 then 2 else if 2<=n/\n<=7 then 1 else 0
def NI:Ct:=WV toBool (rI .i64) (rI .i64) fun h n m=> .bo (fG h n m)
def VR:Ct:=NX rK fun k=> .tp [.ag [.st (wy k),.bo (dG k.kind),.bo (nU k.kind),.bo (gd k.kind),.bo (jZ k.kind),.it .i64 (eP k.kind),.it .i64 (qR k.kind)],.bo (aT k)]
def Vj:Ct:=NX (rI .i64) fun n=> .tp [.bo (dG n),.bo (nU n),.bo (gd n),.bo (jZ n)]
def RS:Ct:=NX rK fun k=> .it .i64 (bD k)
def bg (k:Key):Bool:=aT k&&dG k.kind
def cS (k:Key):Int:=if bg k then k.oid else 0
def J3:Ct:=NX rK fun k=> .tp [.it .i64 (cS k),.bo (bg k)]
def Mn:Ct:=NX rK fun k=> .it .i64 (aY k)
def Lw:Ct:=NX rK fun k=> .it .i64 (fP k)
def C3:Ct:=Q6 rK rO fun k o=> .bo (ca k o)
theorem wrap_i64 {n:Int} (h:bY .i64 n):IntKind.wrap .i64 n=n:=by
 have:=h;simp only[bY]at this;unfold IntKind.wrap;simp[IntKind.bits,IntKind.signed];omega
theorem rZ {r:Int} (j:Nat) (hj:j<63) (h0:0<=r) (h1:r<=9223372036854775807):bd .andNot .i64 r ((2^j-1:Nat):Int)=0↔r<2^j:=by
 obtain⟨n,rfl⟩:=Int.eq_ofNat_of_zero_le h0;have hn:n<2^64:=by omega
 have hbit:∀i,(BitVec.ofInt 64 (n:Int)).getLsbD i=n.testBit i:=by
  intro i;rw[BitVec.ofInt_natCast,BitVec.getLsbD_ofNat];by_cases hi:i<64
  ·simp[hi]
  ·rw[Nat.testBit_lt_two_pow (Nat.lt_of_lt_of_le hn (Nat.pow_le_pow_right (by omega) (by omega)))];simp
 have hx:(BitVec.ofInt 64 (n:Int) &&& ~~~BitVec.ofInt 64 ((2^j-1:Nat):Int)).toNat=0↔n<2^j:=by
  constructor
  ·intro h;refine Nat.lt_pow_two_of_testBit _ fun i hi=>?_
   rcases Nat.lt_or_ge i 64 with h64|h64
   ·have h2:(BitVec.ofInt 64 (n:Int) &&& ~~~BitVec.ofInt 64 ((2^j-1:Nat):Int)).getLsbD i=false:=by
     rw[BitVec.getLsbD,h];simp
    rw[BitVec.getLsbD_and,hbit,BitVec.getLsbD_not,BitVec.ofInt_natCast,BitVec.getLsbD_ofNat,Nat.testBit_two_pow_sub_one]at h2;simp only[h64,decide_true,Bool.true_and,show¬i<j by omega,decide_false,Bool.not_false,Bool.and_true]at h2
    exact h2
   ·exact Nat.testBit_lt_two_pow (Nat.lt_of_lt_of_le hn (Nat.pow_le_pow_right (by omega) h64))
  ·intro h
   have:BitVec.ofInt 64 (n:Int) &&& ~~~BitVec.ofInt 64 ((2^j-1:Nat):Int)=0#64:=by
    refine BitVec.eq_of_getLsbD_eq fun i hi=>?_
    rw[BitVec.getLsbD_and,hbit,BitVec.getLsbD_not,BitVec.ofInt_natCast,BitVec.getLsbD_ofNat,Nat.testBit_two_pow_sub_one];by_cases hij:i<j
    ·simp[hij,hi]
    ·rw[Nat.testBit_lt_two_pow (Nat.lt_of_lt_of_le h (Nat.pow_le_pow_right (by omega) (by omega)))];simp
   rw[this];rfl
 have hle:(BitVec.ofInt 64 (n:Int) &&& ~~~BitVec.ofInt 64 ((2^j-1:Nat):Int)).toNat<=n:=by
  rw[BitVec.toNat_and];refine Nat.le_trans Nat.and_le_left ?_;rw[BitVec.ofInt_natCast,BitVec.toNat_ofNat];exact Nat.mod_le _ _
 have hp:((2^j:Nat):Int)=(2:Int)^j:=by simp
 change IntKind.wrap .i64 (((BitVec.ofInt 64 (n:Int) &&& ~~~BitVec.ofInt 64 ((2^j-1:Nat):Int)).toNat:Nat):Int)=0↔_
 generalize (BitVec.ofInt 64 (n:Int) &&& ~~~BitVec.ofInt 64 ((2^j-1:Nat):Int)).toNat=x at *
 rw[wrap_i64 (by simp only[bY];omega),<-hp]
 omega
theorem QM {r:Int} (h0:0<=r) (h1:r<=9223372036854775807):bd .andNot .i64 r 7=0↔r<=7:=by
 have:=rZ 3 (by omega) h0 h1
 rw[show((2^3-1:Nat):Int)=7 from rfl,show(2:Int)^3=8 from rfl]at this;rw[this];omega
theorem Pg {r:Int} (h0:0<=r) (h1:r<=9223372036854775807):bd .andNot .i64 r 1=0↔r<=1:=by
 have:=rZ 1 (by omega) h0 h1
 rw[show((2^1-1:Nat):Int)=1 from rfl,show(2:Int)^1=2 from rfl]at this;rw[this];omega
theorem Rl {r:Int} (h0:0<=r) (h1:r<=9223372036854775807):bd .andNot .i64 r 0=0↔r<=0:=by
 have:=rZ 0 (by omega) h0 h1
 rw[show((2^0-1:Nat):Int)=0 from rfl,show(2:Int)^0=1 from rfl]at this;rw[this];omega
theorem NQ {r m:Int} {b:Bool} (h:0<=r->(b=decide (r<=m))):(decide (0<=r)&&b)=(decide (0<=r)&&decide (r<=m)):=by
 by_cases h0:0<=r
 ·rw[h h0]
 ·simp[h0]
end Go.Sx
namespace Go.Proofs.YtghpaegglbbocaaGreat
open Go.Sx
set_option maxRecDepth 100000
theorem GG (h:Bool) (n m:Int):
 (h&&decide (0<=n)&&decide (n<=m)|| !h&&decide (n=0))=fG h n m:=by
 unfold fG;cases h<;>simp
theorem Ht:ck Tryz.prog 131 NI:=
 JZ Lk (fz .i64) (fz .i64) (fun _ _ _=>rfl) fun h n m _ _ _=>aV (inl:=bn) (ann:=aP) ak (GG h n m) (by kernel_rfl)
theorem IB:ck Tryz.prog 130 (U0 AH):=
 Sw rfl (aV (inl:=bn) (ann:=aP) ak (G:=AH=AH) rfl (by kernel_rfl):ai _ _ _ _ (fun v _=>v=AH) (fun _ _=>False))
theorem TF (k:Key) (hk:k.wf):
 ((decide (k.kind<0)||decide (10<k.kind))=true->
   {data:= {toList:= []}}=wy k/\
    false=dG k.kind/\
     false=nU k.kind/\
      false=gd k.kind/\false=jZ k.kind/\0=eP k.kind/\0=qR k.kind/\false=aT k)/\
   ((decide (k.kind<0)||decide (10<k.kind))=false->
     (0<=k.kind/\k.kind< ↑11)/\
      ah [mN 0,mN 1,mN 2,mN 3,mN 4,mN 5,mN 6,mN 7,mN 8,mN 9,mN 10] k.kind.toNat
          {data:= {toList:= []}}=
        wy k/\
       ah [false,false,true,true,true,true,true,true,false,false,false] k.kind.toNat false=
         dG k.kind/\
        ah [false,false,true,true,false,false,false,false,false,false,false] k.kind.toNat false=
          nU k.kind/\
         ah [false,false,false,false,false,false,false,true,false,false,false] k.kind.toNat false=
           gd k.kind/\
          ah [false,true,false,false,false,false,true,false,false,false,false] k.kind.toNat false=
            jZ k.kind/\
           ah [0,0,7,1,0,0,0,0,0,0,0] k.kind.toNat 0=eP k.kind/\
            ah [0,0,1,2,1,1,1,1,0,0,0] k.kind.toNat 0=qR k.kind/\
             (fG
                (ah [false,false,true,true,true,true,true,true,false,false,false]
                 k.kind.toNat false)
                k.oid 63&&
                fG
                 (ah [false,false,true,true,true,true,true,true,false,false,false]
                  k.kind.toNat false)
                 k.count 4294967295&&
                fG
                 (ah [false,false,false,false,false,false,false,true,false,false,false]
                  k.kind.toNat false)
                 k.call 4294967295&&
                decide (0<=k.rights)&&
                decide
                 (bd BinOp.andNot IntKind.i64 k.rights
                   (ah [0,0,7,1,0,0,0,0,0,0,0] k.kind.toNat 0)=
                  0)&&
               (ah [false,true,false,false,false,false,true,false,false,false,false] k.kind.toNat
                 false||
                decide (k.value=0)))=
              aT k):=by
 obtain⟨kind,oid,count,call,rights,value⟩:=k;have hr:rights<=9223372036854775807:=hk.2.2.2.2.1.2;simp only;have he:(ByteArray.empty:ByteArray)= {data:= {toList:= []}}:=rfl;refine⟨fun h=>?_,fun h=>?_⟩
 ·simp only[Bool.or_eq_true,Yp]at h;refine⟨?_,?_,?_,?_,?_,?_,?_,?_⟩<;>simp only[wy,RT,dG,nU,gd,jZ,eP,qR,aT]<;>grind
 ·simp only[Bool.or_eq_false_iff,decide_eq_false_iff_not]at h;have hb:∀m,(0<=rights->(decide (bd .andNot .i64 rights m=0))=decide (rights<=m))->(decide (0<=rights)&&decide (bd .andNot .i64 rights m=0))=(decide (0<=rights)&&decide (rights<=m)):=fun m hm=>NQ hm
  have h7:=hb 7 fun h0=>by rw[decide_eq_decide];exact QM h0 hr
  have h1:=hb 1 fun h0=>by rw[decide_eq_decide];exact Pg h0 hr
  have h0:=hb 0 fun h0=>by rw[decide_eq_decide];exact Rl h0 hr
  have hc:kind=0\/kind=1\/kind=2\/kind=3\/kind=4\/kind=5\/kind=6\/kind=7\/kind=8\/kind=9\/kind=10:=by omega
  rcases hc with rfl|rfl|rfl|rfl|rfl|rfl|rfl|rfl|rfl|rfl|rfl<;>
   refine⟨⟨by decide,by decide⟩,rfl,rfl,rfl,rfl,rfl,rfl,rfl,?_⟩<;>
   simp only[ah,aT,dG,jZ,gd,eP,Int.reduceToNat,List.getD_cons_zero,List.getD_cons_succ,Bool.and_assoc]<;>
   simp+decide [fG]<;>grind
theorem yI:ck Tryz.prog 56 VR:=
 o0 fy (fun _=>rfl) fun k hk=>aV (inl:=bn) (ann:=aP) (ab Ht (ab IB ak)) (TF k hk) (by kernel_rfl)
theorem QZ (k:Key) (hk:k.wf):
 ((!aT k)=true->2=bD k)/\((!aT k)=false->0=bD k):=by
 unfold bD;cases aT k<;>simp
theorem je:ck Tryz.prog 33 RS:=
 o0 fy (fun _=>rfl) fun k hk=>aV (inl:=bn) (ann:=aP) (ab yI ak) (QZ k hk) (by kernel_rfl)
theorem G1 (k:Key) (hk:k.wf):
 ((!aT k|| !dG k.kind)=true->0=cS k/\false=bg k)/\
   ((!aT k|| !dG k.kind)=false->k.oid=cS k/\true=bg k):=by
 unfold cS bg;cases aT k<;>cases dG k.kind<;>simp
theorem eY:ck Tryz.prog 32 J3:=
 o0 fy (fun _=>rfl) fun k hk=>aV (inl:=bn) (ann:=aP) (ab yI ak) (G1 k hk) (by kernel_rfl)
theorem Ej (k:Key) (o:Sx.Obj) (hk:k.wf):
 ((!aT k)=true->false=ca k o)/\
   ((!aT k)=false->
     ((!dG k.kind)=true->true=ca k o)/\
       ((!dG k.kind)=false->
         (decide (o.kind=qR k.kind)&&decide (o.count=k.count)&&
           (!gd k.kind||decide (o.calls=k.call)))=
          ca k o)):=by
 cases hok:aT k
 ·simp[ca,hok]
 ·have h0:dG k.kind=true->0<=k.oid:=fun h=>by
   simp only[aT,fG,h,if_true,Yo,Yp]at hok;omega
  simp only[ca,fP,aY,qR,gd,hok,Bool.true_and];simp only[dG]at *;grind
theorem yB:ck Tryz.prog 57 C3:=
 mo fy xR (fun _ _=>rfl) fun k o hk _=>aV (inl:=bn) (ann:=aP) (ab yI ak) (Ej k o hk) (by kernel_rfl)
theorem SS (n:Int):
 (decide (2<=n)&&decide (n<=7))=dG n/\
  (decide (n=2)||decide (n=3))=nU n/\
   decide (n=7)=gd n/\(decide (n=1)||decide (n=6))=jZ n:=by
 exact⟨rfl,rfl,rfl,rfl⟩
theorem Lp:ck Tryz.prog 28 Vj:=
 o0 (fz .i64) (fun _=>rfl) fun n _=>aV (inl:=bn) (ann:=aP) ak (SS n) (by kernel_rfl)
theorem PO (k:Key) (hk:k.wf):
 (nU k.kind=true->
   (decide (k.kind=3)=true->
     ((decide (k.kind<0)||decide (10<k.kind)||decide (k.rights<0)||decide (1<k.rights)||
        !jZ k.kind&& !decide (k.value=0))=
        true->
       2=bD k)/\
       ((decide (k.kind<0)||decide (10<k.kind)||decide (k.rights<0)||decide (1<k.rights)||
          !jZ k.kind&& !decide (k.value=0))=
         false->
         ((dG k.kind&&
            (decide (k.oid<0)||decide (64<=k.oid)||decide (k.count<0)||
             decide (4294967295<k.count))||
               !dG k.kind&&(!decide (k.oid=0)|| !decide (k.count=0)))=
            true->
           2=bD k)/\
           ((dG k.kind&&
                (decide (k.oid<0)||decide (64<=k.oid)||decide (k.count<0)||
                 decide (4294967295<k.count))||
              !dG k.kind&&(!decide (k.oid=0)|| !decide (k.count=0)))=
             false->
             ((gd k.kind&&(decide (k.call<0)||decide (4294967295<k.call))||
                  !gd k.kind&& !decide (k.call=0))=
                true->
               2=bD k)/\
               ((gd k.kind&&(decide (k.call<0)||decide (4294967295<k.call))||
                  !gd k.kind&& !decide (k.call=0))=
                 false->
                 0=bD k))))/\
    (decide (k.kind=3)=false->
     ((decide (k.kind<0)||decide (10<k.kind)||decide (k.rights<0)||decide (7<k.rights)||
        !jZ k.kind&& !decide (k.value=0))=
        true->
       2=bD k)/\
       ((decide (k.kind<0)||decide (10<k.kind)||decide (k.rights<0)||decide (7<k.rights)||
          !jZ k.kind&& !decide (k.value=0))=
         false->
         ((dG k.kind&&
            (decide (k.oid<0)||decide (64<=k.oid)||decide (k.count<0)||
             decide (4294967295<k.count))||
               !dG k.kind&&(!decide (k.oid=0)|| !decide (k.count=0)))=
            true->
           2=bD k)/\
           ((dG k.kind&&
                (decide (k.oid<0)||decide (64<=k.oid)||decide (k.count<0)||
                 decide (4294967295<k.count))||
              !dG k.kind&&(!decide (k.oid=0)|| !decide (k.count=0)))=
             false->
             ((gd k.kind&&(decide (k.call<0)||decide (4294967295<k.call))||
                  !gd k.kind&& !decide (k.call=0))=
                true->
               2=bD k)/\
               ((gd k.kind&&(decide (k.call<0)||decide (4294967295<k.call))||
                  !gd k.kind&& !decide (k.call=0))=
                 false->
                 0=bD k)))))/\
  (nU k.kind=false->
   (decide (k.kind=3)=true->
     ((decide (k.kind<0)||decide (10<k.kind)||decide (k.rights<0)||decide (1<k.rights)||
        !jZ k.kind&& !decide (k.value=0))=
        true->
       2=bD k)/\
       ((decide (k.kind<0)||decide (10<k.kind)||decide (k.rights<0)||decide (1<k.rights)||
          !jZ k.kind&& !decide (k.value=0))=
         false->
         ((dG k.kind&&
            (decide (k.oid<0)||decide (64<=k.oid)||decide (k.count<0)||
             decide (4294967295<k.count))||
               !dG k.kind&&(!decide (k.oid=0)|| !decide (k.count=0)))=
            true->
           2=bD k)/\
           ((dG k.kind&&
                (decide (k.oid<0)||decide (64<=k.oid)||decide (k.count<0)||
                 decide (4294967295<k.count))||
              !dG k.kind&&(!decide (k.oid=0)|| !decide (k.count=0)))=
             false->
             ((gd k.kind&&(decide (k.call<0)||decide (4294967295<k.call))||
                  !gd k.kind&& !decide (k.call=0))=
                true->
               2=bD k)/\
               ((gd k.kind&&(decide (k.call<0)||decide (4294967295<k.call))||
                  !gd k.kind&& !decide (k.call=0))=
                 false->
                 0=bD k))))/\
    (decide (k.kind=3)=false->
     ((decide (k.kind<0)||decide (10<k.kind)||decide (k.rights<0)||decide (0<k.rights)||
        !jZ k.kind&& !decide (k.value=0))=
        true->
       2=bD k)/\
       ((decide (k.kind<0)||decide (10<k.kind)||decide (k.rights<0)||decide (0<k.rights)||
          !jZ k.kind&& !decide (k.value=0))=
         false->
         ((dG k.kind&&
            (decide (k.oid<0)||decide (64<=k.oid)||decide (k.count<0)||
             decide (4294967295<k.count))||
               !dG k.kind&&(!decide (k.oid=0)|| !decide (k.count=0)))=
            true->
           2=bD k)/\
           ((dG k.kind&&
                (decide (k.oid<0)||decide (64<=k.oid)||decide (k.count<0)||
                 decide (4294967295<k.count))||
              !dG k.kind&&(!decide (k.oid=0)|| !decide (k.count=0)))=
             false->
             ((gd k.kind&&(decide (k.call<0)||decide (4294967295<k.call))||
                  !gd k.kind&& !decide (k.call=0))=
                true->
               2=bD k)/\
               ((gd k.kind&&(decide (k.call<0)||decide (4294967295<k.call))||
                  !gd k.kind&& !decide (k.call=0))=
                 false->
                 0=bD k))))):=by
 simp only[bD,aT,fG,eP,nU];rcases Bool.eq_false_or_eq_true (dG k.kind)with hA|hA<;>rcases Bool.eq_false_or_eq_true (gd k.kind)with hB|hB<;>rcases Bool.eq_false_or_eq_true (jZ k.kind)with hC|hC<;>simp only[hA,hB,hC,Bool.true_and,Bool.false_and,Bool.not_true,Bool.not_false,Bool.or_false,Bool.false_or,Bool.true_or,if_true,Bool.false_eq_true,if_false,Bool.and_true]<;>grind
theorem rm:ck Tryz.prog 15 RS:=
 o0 fy (fun _=>rfl) fun k hk=>aV (inl:=bn) (ann:=aP) (ab Lp ak) (PO k hk) (by kernel_rfl)
theorem Hx (k:Key) (hk:k.wf):
 ((!decide (bD k=0)|| !dG k.kind)=true-> -1=aY k)/\
   ((!decide (bD k=0)|| !dG k.kind)=false->k.oid=aY k):=by
 unfold aY bD;cases aT k<;>cases dG k.kind<;>simp
theorem l0:ck Tryz.prog 17 Mn:=
 o0 fy (fun _=>rfl) fun k hk=>aV (inl:=bn) (ann:=aP) (ab Lp (ab rm ak)) (Hx k hk) (by kernel_rfl)
theorem G5 (k:Key) (hk:k.wf):
 (decide (aY k<0)=true->0=fP k)/\
  (decide (aY k<0)=false->
   (decide (k.kind=3)=true->2=fP k)/\(decide (k.kind=3)=false->1=fP k)):=by
 unfold fP;grind
theorem HL:ck Tryz.prog 190 Lw:=
 o0 fy (fun _=>rfl) fun k hk=>aV (inl:=bn) (ann:=aP) (ab l0 ak) (G5 k hk) (by kernel_rfl)
theorem Ev (k:Key) (o:Sx.Obj) (hk:k.wf):
 ((!decide (bD k=0))=true->false=ca k o)/\
   ((!decide (bD k=0))=false->
     (decide (aY k<0)=true->true=ca k o)/\
      (decide (aY k<0)=false->
       (decide (o.kind=fP k)&&decide (o.count=k.count)&&
         (!decide (k.kind=7)||decide (o.calls=k.call)))=
        ca k o)):=by
 unfold ca bD;cases aT k<;>grind
theorem EV:ck Tryz.prog 175 C3:=
 mo fy xR (fun _ _=>rfl) fun k o hk _=>aV (inl:=bn) (ann:=aP) (ab rm (ab l0 (ab HL ak))) (Ev k o hk) (by kernel_rfl)
end Go.Proofs.YtghpaegglbbocaaGreat
namespace Go.Sx
def h9 (kind n:Int) (k:Key):Bool:=aT k&&decide (aY k<n)&&(decide (kind=1)||decide (k=void))
def bT (o:Obj) (n:Int):Bool:=
 decide (1<=n)&&decide (n<=64)&&decide (0<=o.kind)&&decide (o.kind<=3)&&decide (0<=o.count)&&decide (o.count<=4294967295)&&decide (0<=o.calls)&&decide (o.calls<=4294967295)&&
 (decide (o.kind=1)||decide (o.calls=0))&&(List.range 16).all (fun i=>h9 o.kind n (o.slots.at i))&&
 (List.range 64).all (fun i=>decide (o.kind=1)||decide (o.kind=2)||decide (o.bytes.at i=0))
def cG (o:Obj) (n:Int):Int:=if bT o n then 0 else 2
def ki (o:Obj) (b:Bool):Bool:=decide (o.slots=fX)&&(b||decide (o.bytes=fW))&&decide (o.calls=0)
def BC (o:Obj) (n:Int) (i:Int):Prop:=0<=i/\i<=16/\∀j:Nat,(j:Int)<i->h9 o.kind n (o.slots.at j)=true
def Bz (o:Obj) (n:Int) (i:Int):Prop:=0<=i/\i<=64/\(∀j:Nat,j<16->h9 o.kind n (o.slots.at j)=true)/\∀j:Nat,(j:Int)<i->(o.kind=1\/o.kind=2\/o.bytes.at j=0)
def n9 (o:Obj) (n:Int) (i:Int):Bool:=(List.range i.toNat).all fun j=>aT (o.slots.at j)&&decide (aY (o.slots.at j)<n)
def AP (i:Int):Prop:=0<=i/\i<=16
def T9:Ct:=Q6 rO toBool fun o b=> .bo (ki o b)
def Kw:Ct:=Q6 rO (rI .i64) fun o n=> .it .i64 (cG o n)
theorem fg {o:Obj} {n:Int}:bT o n=true↔1<=n/\n<=64/\0<=o.kind/\o.kind<=3/\0<=o.count/\o.count<=4294967295/\0<=o.calls/\o.calls<=4294967295/\
  (o.kind=1\/o.calls=0)/\(∀i,i<16->h9 o.kind n (o.slots.at i)=true)/\∀i,i<64->(o.kind=1\/o.kind=2)\/o.bytes.at i=0:=by
 simp only[bT,Yo,Yp,Bool.or_eq_true,List.all_eq_true,List.mem_range,and_assoc]
theorem oR {o:Obj} {n:Int} (h:¬bT o n=true):2=cG o n:=by simp[cG,h]
theorem qu {o:Obj} {n:Int} (h:bT o n=true):0=cG o n:=by simp[cG,h]
theorem HQ (kind n:Int) (k:Key):(!decide (bD k=0)||decide (n<=aY k)|| !decide (kind=1)&& !tL k void)= !h9 kind n k:=by
 unfold h9 bD tL;cases aT k<;>grind
theorem Re (b:UInt8):decide (Pv b=0)=decide (b=0):=by
 rw[decide_eq_decide,Pv];constructor
 ·intro h;have:b.toNat=0:=by omega
  exact UInt8.toNat_inj.1 (by simpa using this)
 ·rintro rfl;rfl
theorem Fz {s:cQ}:s=fX↔ ∀i,i<16->s.at i=void:=by
 constructor
 ·rintro rfl i _;exact xT i
 ·intro h;refine Vector.ext fun i hi=>?_
  have:=h i hi;unfold cQ.at at this;simp only[fX,Vector.getElem_replicate];rw[<-this];simp[hi]
theorem FH {s:Bytes}:s=fW↔ ∀i,i<64->s.at i=0:=by
 constructor
 ·rintro rfl i hi
  unfold Bytes.at fW;simp[hi]
 ·intro h;refine Vector.ext fun i hi=>?_
  have:=h i hi;unfold Bytes.at at this;simp only[fW,Vector.getElem_replicate];rw[<-this];simp[hi]
theorem pb:aT void=true/\aY void= -1:=by decide
theorem vv {kind n:Int} (hk:kind≠1) (hn:1<=n) (k:Key):h9 kind n k=true↔k=void:=by
 unfold h9;simp only[Yo,Yp,Bool.or_eq_true];constructor
 ·rintro⟨_,h|h⟩
  ·exact absurd h hk
  ·exact h
 ·rintro rfl
  exact⟨⟨pb.1,by rw[pb.2];omega⟩,.inr rfl⟩
theorem MX {o:Obj} {b:Bool}:ki o b=true↔(∀i,i<16->o.slots.at i=void)/\(b=true\/∀i,i<64->o.bytes.at i=0)/\o.calls=0:=by
 simp only[ki,Yo,Yp,Bool.or_eq_true,Fz,FH,and_assoc]
theorem D1 {o:Obj} {n:Int} (h1:1<=n) (h2:n<=64) (h3:0<=o.count) (h4:o.count<=4294967295) (h5:0<=o.calls) (h6:o.calls<=4294967295) {b:Bool} (hk:0<=o.kind/\o.kind<=3/\o.kind≠1) (hb:b=decide (o.kind=2)):
  bT o n=ki o b:=by
 rw[Bool.eq_iff_iff,fg,MX];subst hb;constructor
 ·rintro⟨_,_,_,_,_,_,_,_,h,hs,hz⟩
  refine⟨fun i hi=>(vv hk.2.2 h1 _).1 (hs i hi),?_,h.resolve_left hk.2.2⟩
  by_cases h2:o.kind=2
  ·exact .inl (by simp[h2])
  ·exact .inr fun i hi=>(hz i hi).resolve_left fun h=>h.elim hk.2.2 h2
 ·rintro⟨hs,hz,hc⟩
  refine⟨h1,h2,hk.1,hk.2.1,h3,h4,h5,h6,.inr hc,fun i hi=>(vv hk.2.2 h1 _).2 (hs i hi),fun i hi=>?_⟩
  rcases hz with h|h
  ·exact .inl (.inr (by simpa using h))
  ·exact .inr (h i hi)
theorem D2 {o:Obj} {n:Int} (h1:1<=n) (h2:n<=64) (h3:0<=o.count) (h4:o.count<=4294967295) (h5:0<=o.calls) (h6:o.calls<=4294967295) (hk:o.kind=1):bT o n=n9 o n 16:=by
 rw[Bool.eq_iff_iff,fg];simp only[n9,List.all_eq_true,List.mem_range,hk,h9,Yo,decide_true,Bool.true_or,and_true];constructor
 ·rintro⟨_,_,_,_,_,_,_,_,_,hs,_⟩
  exact fun i hi=>hs i hi
 ·intro hs;exact⟨h1,h2,by omega,by omega,h3,h4,h5,h6,.inl trivial,fun i hi=>hs i hi,fun i hi=> .inl (.inl trivial)⟩
theorem Md {o:Obj} {n g:Int}:(n9 o n g&&decide (bD (o.slots.at g.toNat)=0)&&(!bg (o.slots.at g.toNat)||decide (cS (o.slots.at g.toNat)<n)))=
  (n9 o n g&&(aT (o.slots.at g.toNat)&&(!bg (o.slots.at g.toNat)||decide ((o.slots.at g.toNat).oid<n)))):=by
 unfold bD cS;cases aT (o.slots.at g.toNat)<;>cases bg (o.slots.at g.toNat)<;>simp
theorem Mc {o:Obj} {n g:Int} (h0:0<=g) (hn:1<=n):(n9 o n g&&decide (bD (o.slots.at g.toNat)=0)&&(!bg (o.slots.at g.toNat)||decide (cS (o.slots.at g.toNat)<n)))=n9 o n (g+1):=by
 rw[Md];unfold n9;rw[show(g+1).toNat=g.toNat+1 by omega,List.range_succ,List.all_append]
 simp only[List.all_cons,List.all_nil,Bool.and_true];congr 1
 unfold aY bg;cases aT (o.slots.at g.toNat)
 ·rfl
 ·cases dG (o.slots.at g.toNat).kind
  ·simp;omega
  ·simp
end Go.Sx
namespace Go.Proofs.YtghpaegglbbocaaGreat
open Go.Sx
set_option maxRecDepth 100000
theorem QK (o:Sx.Obj) (b:Bool):
 (DD o.slots fX&&(b||CI o.bytes fW)&&decide (o.calls=0))=ki o b:=by
 unfold ki DD CI;rfl
theorem Q3:ck Tryz.prog 174 T9:=
 mo xR Lk (fun _ _=>rfl) fun o b _ _=>aV (inl:=bn) (ann:=aP) ak (QK o b) (by kernel_rfl)
theorem Ip (o:Sx.Obj) (n:Int):
 ((decide (n<1)||decide (64<n)||decide (o.kind<0)||decide (3<o.kind)||decide (o.count<0)||
             decide (4294967295<o.count)||
            decide (o.calls<0)||
           decide (4294967295<o.calls)||
    !decide (o.kind=1)&& !decide (o.calls=0))=
    true->
   2=cG o n)/\
   ((decide (n<1)||decide (64<n)||decide (o.kind<0)||decide (3<o.kind)||decide (o.count<0)||
              decide (4294967295<o.count)||
             decide (o.calls<0)||
      decide (4294967295<o.calls)||
      !decide (o.kind=1)&& !decide (o.calls=0))=
     false->
     (∃g,BC o n g/\n=n/\o.kind=o.kind/\0=g/\o=o)/\
      ∀(g:Int),
       BC o n g->
        (decide (g<16)=true->
          (0<=g/\g< ↑16)/\
           ((!!decide (bD (o.slots.at g.toNat)=0))=true->0<=g/\g< ↑16)/\
             ((!decide (o.kind=1)&&
                !(!decide (bD (o.slots.at g.toNat)=0)||
                  decide (n<=aY (o.slots.at g.toNat))))=
                true->
               0<=g/\g< ↑16)/\
               ((!decide (bD (o.slots.at g.toNat)=0)||decide (n<=aY (o.slots.at g.toNat))||
                  !decide (o.kind=1)&& !tL (o.slots.at g.toNat) void)=
                  true->
                 2=cG o n)/\
                 ((!decide (bD (o.slots.at g.toNat)=0)||decide (n<=aY (o.slots.at g.toNat))||
                    !decide (o.kind=1)&& !tL (o.slots.at g.toNat) void)=
                   false->
                   aG IntKind.i64 (g+1)/\
                    ∃g',
                     BC o n g'/\
                      (16-g').toNat<(16-g).toNat/\n=n/\o.kind=o.kind/\g+1=g'/\o=o))/\
         (decide (g<16)=false->
          (∃g,Bz o n g/\n=n/\o.kind=o.kind/\0=g/\o=o)/\
           ∀(g:Int),
            Bz o n g->
             (decide (g<64)=true->
               ((!decide (o.kind=1)&& !decide (o.kind=2))=true->0<=g/\g< ↑64)/\
                 ((!decide (o.kind=1)&& !decide (o.kind=2)&&
                    !decide (Pv (o.bytes.at g.toNat)=0))=
                    true->
                   2=cG o n)/\
                   ((!decide (o.kind=1)&& !decide (o.kind=2)&&
                      !decide (Pv (o.bytes.at g.toNat)=0))=
                     false->
                     aG IntKind.i64 (g+1)/\
                      ∃g',
                       Bz o n g'/\
                        (64-g').toNat<(64-g).toNat/\
                         n=n/\o.kind=o.kind/\g+1=g'/\o=o))/\
              (decide (g<64)=false->0=cG o n))):=by
 refine⟨fun h=>oR fun hh=>?_,fun h=>⟨⟨0,⟨by omega,by omega,fun j hj=>by omega⟩,rfl,rfl,rfl,rfl⟩,fun g hg=>⟨fun hlt=>?_,fun hge=>?_⟩⟩⟩
 ·have:=fg.1 hh;simp only[Bool.or_eq_true,Yo,Bool.not_eq_true',Yp,decide_eq_false_iff_not]at h;omega
 ·obtain⟨g0,g1,g2⟩:=hg;have hlt:=Ys hlt;rw[HQ];refine⟨⟨g0,by omega⟩,fun _=>⟨g0,by omega⟩,fun _=>⟨g0,by omega⟩,fun hbad=>oR fun hh=>?_,fun hok=>⟨?_,g+1,⟨by omega,by omega,fun j hj=>?_⟩,by omega,rfl,rfl,rfl,rfl⟩⟩
  ·have:=(fg.1 hh).2.2.2.2.2.2.2.2.2.1 g.toNat (by omega)
   rw[this]at hbad;simp at hbad
  ·simp only[aG,bY];omega
  ·by_cases e:(j:Int)<g
   ·exact g2 j e
   ·have:j=g.toNat:=by omega
    subst this;simpa using hok
 ·obtain⟨g0,g1,g2⟩:=hg;have hge:¬g<16:=Yr hge;refine⟨⟨0,⟨by omega,by omega,fun j hj=>g2 j (by omega),fun j hj=>by omega⟩,rfl,rfl,rfl,rfl⟩,fun g hg=>⟨fun hlt=>?_,fun hge=>qu ?_⟩⟩
  ·obtain⟨k0,k1,k2,k3⟩:=hg;have hlt:=Ys hlt;simp only[Re];refine⟨fun _=>⟨k0,by omega⟩,fun hbad=>oR fun hh=>?_,fun hok=>⟨?_,g+1,⟨by omega,by omega,k2,fun j hj=>?_⟩,by omega,by simp⟩⟩
   ·have:=(fg.1 hh).2.2.2.2.2.2.2.2.2.2 g.toNat (by omega)
    simp only[Yo,Bool.not_eq_true',decide_eq_false_iff_not]at hbad;grind
   ·simp only[aG,bY];omega
   ·by_cases e:(j:Int)<g
    ·exact k3 j e
    ·have:j=g.toNat:=by omega
     subst this;simp only[Bool.and_eq_false_iff,Bool.not_eq_false',Yp]at hok;grind
  ·obtain⟨k0,k1,k2,k3⟩:=hg;have hge:¬g<64:=Yr hge;simp only[Bool.or_eq_false_iff,Bool.and_eq_false_iff,Bool.not_eq_false',Yp,decide_eq_false_iff_not]at h;refine fg.2 ⟨by omega,by omega,by omega,by omega,by omega,by omega,by omega,by omega,by omega,k2,fun i hi=>?_⟩
   have:=k3 i (by omega)
   grind
theorem JK:ck Tryz.prog 40 Kw:=
 mo xR (fz .i64) (fun _ _=>rfl) fun o n _ _=>aV (inl:=bn) (ann:=(iz [(40,5,XV [1,2,5] 6 (BC o n) 16),(40,10,XV [1,2,5] 7 (Bz o n) 64)])) (ab rm (ab l0 ak)) (Ip o n) (by kernel_rfl)
theorem PR (o:Sx.Obj) (n:Int):
 ((decide (n<1)||decide (64<n)||decide (o.count<0)||decide (4294967295<o.count)||
           decide (o.calls<0)||
    decide (4294967295<o.calls))=
    true->
   2=cG o n)/\
   ((decide (n<1)||decide (64<n)||decide (o.count<0)||decide (4294967295<o.count)||
      decide (o.calls<0)||
      decide (4294967295<o.calls))=
     false->
     (decide (o.kind=0)=true->
       ((!ki o false)=true->2=cG o n)/\((!ki o false)=false->0=cG o n))/\
      (decide (o.kind=0)=false->
       (decide (o.kind=3)=true->
         ((!ki o false)=true->2=cG o n)/\((!ki o false)=false->0=cG o n))/\
        (decide (o.kind=3)=false->
         (decide (o.kind=2)=true->
           ((!ki o true)=true->2=cG o n)/\((!ki o true)=false->0=cG o n))/\
          (decide (o.kind=2)=false->
           (decide (o.kind=1)=true->
             (∃g,AP g/\n=n/\true=n9 o n g/\o.slots=o.slots/\0=g/\o=o)/\
              ∀(g:Int),
               AP g->
                (decide (g<16)=true->
                  (0<=g/\g< ↑16)/\
                   aG IntKind.i64 (g+1)/\
                    ∃g',
                     AP g'/\
                      (16-g').toNat<(16-g).toNat/\
                       n=n/\
                        (n9 o n g&&decide (bD (o.slots.at g.toNat)=0)&&
                           (!bg (o.slots.at g.toNat)||
                            decide (cS (o.slots.at g.toNat)<n)))=
                          n9 o n g'/\
                         o.slots=o.slots/\g+1=g'/\o=o)/\
                 (decide (g<16)=false->
                  ((!n9 o n g)=true->2=cG o n)/\((!n9 o n g)=false->0=cG o n)))/\
            (decide (o.kind=1)=false->2=cG o n))))):=by
 refine⟨fun h=>oR fun hh=>?_,fun h=>?_⟩
 ·have:=fg.1 hh;simp only[Bool.or_eq_true,Yp]at h;omega
 ·simp only[Bool.or_eq_false_iff,decide_eq_false_iff_not]at h
  have hb:∀(b:Bool),(0<=o.kind/\o.kind<=3/\o.kind≠1)->b=decide (o.kind=2)->((!ki o b)=true->2=cG o n)/\((!ki o b)=false->0=cG o n):=fun b h1 h2=>by
   have he:=D1 (o:=o) (n:=n) (b:=b) (by omega) (by omega) (by omega) (by omega) (by omega) (by omega) h1 h2
   exact⟨fun hn=>oR (by rw[he];simpa using hn),fun hy=>qu (by rw[he];simpa using hy)⟩
  refine⟨fun h0=>?_,fun h0=>⟨fun h3=>?_,fun h3=>⟨fun h2=>?_,fun h2=>⟨fun h1=>⟨⟨0,⟨by omega,by omega⟩,rfl,rfl,rfl,rfl,rfl⟩,fun g hg=>⟨fun hlt=>?_,fun hge=>?_⟩⟩,fun h1=>oR fun hh=>?_⟩⟩⟩⟩
  ·have h0:=Ys h0;exact hb false (by omega) (by simp[h0])
  ·have h3:=Ys h3;exact hb false (by omega) (by simp[h3])
  ·have h2:=Ys h2;exact hb true (by omega) (by simp[h2])
  ·obtain⟨g0,g1⟩:=hg;have hlt:=Ys hlt;refine⟨⟨g0,by omega⟩,by simp only[aG,bY];omega,g+1,⟨by omega,by omega⟩,by omega,rfl,Mc g0 (by omega),rfl,rfl,rfl⟩
  ·obtain⟨g0,g1⟩:=hg;have hge:¬g<16:=Yr hge;have h1:=Ys h1;have e:g=16:=by omega
   subst e;have he:=D2 (o:=o) (n:=n) (by omega) (by omega) (by omega) (by omega) (by omega) (by omega) h1
   exact⟨fun hn=>oR (by rw[he];simpa using hn),fun hy=>qu (by rw[he];simpa using hy)⟩
  ·have:=fg.1 hh;have h0:¬o.kind=0:=Yr h0;have h1:¬o.kind=1:=Yr h1;have h2:¬o.kind=2:=Yr h2;have h3:¬o.kind=3:=Yr h3;omega
theorem AJ:ck Tryz.prog 108 Kw:=
 mo xR (fz .i64) (fun _ _=>rfl) fun o n _ _=>aV (inl:=bn) (ann:=(iz [(108,12,Ra [1,2,51] (fun g=> [(52,.it .i64 g),(5,.bo (n9 o n g))]) AP 16)])) (ab Q3 (ab je (ab eY ak))) (PR o n) (by kernel_rfl)
end Go.Proofs.YtghpaegglbbocaaGreat
