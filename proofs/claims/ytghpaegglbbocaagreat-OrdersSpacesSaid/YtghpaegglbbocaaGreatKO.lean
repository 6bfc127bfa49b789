import Derived.Test.YtghpaegglbbocaaGreatSxF
set_option linter.unusedSimpArgs false
set_option linter.unusedVariables false
namespace Go.Sx
def fF (h:Bool) (n m:Int):Bool:=if h then decide (0<=n)&&decide (n<=m)else decide (n=0)
def dH (n:Int):Bool:=decide (2<=n)&&decide (n<=7)
def nV (n:Int):Bool:=decide (n=2)||decide (n=3)
def fY (n:Int):Bool:=decide (n=7)
def jZ (n:Int):Bool:=decide (n=1)||decide (n=6)
def eN (n:Int):Int:=if n=2 then 7 else if n=3 then 1 else 0
def aT (k:Key):Bool:=
 decide (0<=k.kind)&&decide (k.kind<=10)&&decide (0<=k.rights)&&decide (k.rights<=eN k.kind)&&(jZ k.kind||decide (k.value=0))&&
 fF (dH k.kind) k.oid 63&&fF (dH k.kind) k.count 4294967295&&fF (fY k.kind) k.call 4294967295
def bD (k:Key):Int:=if aT k then 0 else 2
def aX (k:Key):Int:=if aT k&&dH k.kind then k.oid else -1
def fN (k:Key):Int:=if aX k<0 then 0 else if k.kind=3 then 2 else 1
def b7 (k:Key) (o:Obj):Bool:=
 aT k&&(decide (aX k<0)||(decide (o.kind=fN k)&&decide (o.count=k.count)&&(!decide (k.kind=7)||decide (o.calls=k.call))))
def Rs (k:Key):Bool:=decide (0<=k.kind)&&decide (k.kind<=10)
def mJ (n:Nat):ByteArray:=
 match n with
 |0=> "void".toUTF8
 |1=> "number".toUTF8
 |2=> "node".toUTF8
 |3=> "page".toUTF8
 |4=> "bank".toUTF8
 |5=> "proc".toUTF8
 |6=> "start".toUTF8
 |7=> "resume".toUTF8
 |8=> "discrim".toUTF8
 |9=> "clock".toUTF8
 |10=> "check".toUTF8
 |_=>ByteArray.empty
def kd (s:ByteArray) (a b c d:Bool) (m w:Int):V:= .ag [.st s,.cb a,.cb b,.cb c,.cb d,.ci .i64 m,.ci .i64 w]
def AL:V:= .ag [kd (mJ 0) false false false false 0 0,kd (mJ 1) false false false true 0 0,kd (mJ 2) true true false false 7 1,kd (mJ 3) true true false false 1 2,
 kd (mJ 4) true false false false 0 1,kd (mJ 5) true false false false 0 1,kd (mJ 6) true false false true 0 1,kd (mJ 7) true false true false 0 1,
 kd (mJ 8) false false false false 0 0,kd (mJ 9) false false false false 0 0,kd (mJ 10) false false false false 0 0]
def vX (k:Key):ByteArray:=if Rs k then mJ k.kind.toNat else ByteArray.empty
def qB (n:Int):Int:=if n=3 then 2 else if 2<=n/\n<=7 then 1 else 0
def Mc:Ct:=Wq toBool (rI .i64) (rI .i64) fun h n m=> .bo (fF h n m)
def U2:Ct:=Nj rK fun k=> .tp [.ag [.st (vX k),.bo (dH k.kind),.bo (nV k.kind),.bo (fY k.kind),.bo (jZ k.kind),.it .i64 (eN k.kind),.it .i64 (qB k.kind)],.bo (aT k)]
def UO:Ct:=Nj (rI .i64) fun n=> .tp [.bo (dH n),.bo (nV n),.bo (fY n),.bo (jZ n)]
def Ry:Ct:=Nj rK fun k=> .it .i64 (bD k)
def bg (k:Key):Bool:=aT k&&dH k.kind
def cR (k:Key):Int:=if bg k then k.oid else 0
def Lp:Ct:=Nj rK fun k=> .tp [.it .i64 (cR k),.bo (bg k)]
def Jm:Ct:=Nj rK fun k=> .it .i64 (aX k)
def K8:Ct:=Nj rK fun k=> .it .i64 (fN k)
def BS:Ct:=Qn rK rO fun k o=> .bo (b7 k o)
theorem wrap_i64 {n:Int} (h:cg .i64 n):IntKind.wrap .i64 n=n:=by
 have:=h;simp only[cg]at this;unfold IntKind.wrap;simp[IntKind.bits,IntKind.signed];omega
theorem rN {r:Int} (j:Nat) (hj:j<63) (h0:0<=r) (h1:r<=9223372036854775807):bd .andNot .i64 r ((2^j-1:Nat):Int)=0↔r<2^j:=by
 obtain⟨n,rfl⟩:=Int.eq_ofNat_of_zero_le h0;have hn:n<2^64:=by omega
 have hbit:∀i,(BitVec.ofInt 64 (n:Int)).getLsbD i=n.testBit i:=by
  intro i;rw[BitVec.ofInt_natCast,BitVec.getLsbD_ofNat];by_cases hi:i<64
  ·simp[hi]
  ·rw[Nat.testBit_lt_two_pow (Nat.lt_of_lt_of_le hn (Nat.pow_le_pow_right (by omega) (by omega)))];simp
 have hx:(BitVec.ofInt 64 (n:Int) &&& ~~~BitVec.ofInt 64 ((2^j-1:Nat):Int)).toNat=0↔n<2^j:=by
  constructor
  ·intro h;refine Nat.lt_pow_two_of_testBit _ fun i hi=>?_
   rcases Nat.lt_or_ge i 64 with h64|h64
   ·have h2:(BitVec.ofInt 64 (n:Int) &&& ~~~BitVec.ofInt 64 ((2^j-1:Nat):Int)).getLsbD i=false:=by
     rw[BitVec.getLsbD,h];simp
    rw[BitVec.getLsbD_and,hbit,BitVec.getLsbD_not,BitVec.ofInt_natCast,BitVec.getLsbD_ofNat,Nat.testBit_two_pow_sub_one]at h2;simp only[h64,decide_true,Bool.true_and,show¬i<j by omega,decide_false,Bool.not_false,Bool.and_true]at h2
    exact h2
   ·exact Nat.testBit_lt_two_pow (Nat.lt_of_lt_of_le hn (Nat.pow_le_pow_right (by omega) h64))
  ·intro h
   have:BitVec.ofInt 64 (n:Int) &&& ~~~BitVec.ofInt 64 ((2^j-1:Nat):Int)=0#64:=by
    refine BitVec.eq_of_getLsbD_eq fun i hi=>?_
    rw[BitVec.getLsbD_and,hbit,BitVec.getLsbD_not,BitVec.ofInt_natCast,BitVec.getLsbD_ofNat,Nat.testBit_two_pow_sub_one];by_cases hij:i<j
    ·simp[hij,hi]
    ·rw[Nat.testBit_lt_two_pow (Nat.lt_of_lt_of_le h (Nat.pow_le_pow_right (by omega) (by omega)))];simp
   rw[this];rfl
 have hle:(BitVec.ofInt 64 (n:Int) &&& ~~~BitVec.ofInt 64 ((2^j-1:Nat):Int)).toNat<=n:=by
  rw[BitVec.toNat_and];refine Nat.le_trans Nat.and_le_left ?_;rw[BitVec.ofInt_natCast,BitVec.toNat_ofNat];exact Nat.mod_le _ _
 have hp:((2^j:Nat):Int)=(2:Int)^j:=by simp
 change IntKind.wrap .i64 (((BitVec.ofInt 64 (n:Int) &&& ~~~BitVec.ofInt 64 ((2^j-1:Nat):Int)).toNat:Nat):Int)=0↔_
 generalize (BitVec.ofInt 64 (n:Int) &&& ~~~BitVec.ofInt 64 ((2^j-1:Nat):Int)).toNat=x at *
 rw[wrap_i64 (by simp only[cg];omega),<-hp]
 omega
theorem P8 {r:Int} (h0:0<=r) (h1:r<=9223372036854775807):bd .andNot .i64 r 7=0↔r<=7:=by
 have:=rN 3 (by omega) h0 h1
 rw[show((2^3-1:Nat):Int)=7 from rfl,show(2:Int)^3=8 from rfl]at this;rw[this];omega
theorem NR {r:Int} (h0:0<=r) (h1:r<=9223372036854775807):bd .andNot .i64 r 1=0↔r<=1:=by
 have:=rN 1 (by omega) h0 h1
 rw[show((2^1-1:Nat):Int)=1 from rfl,show(2:Int)^1=2 from rfl]at this;rw[this];omega
theorem QG {r:Int} (h0:0<=r) (h1:r<=9223372036854775807):bd .andNot .i64 r 0=0↔r<=0:=by
 have:=rN 0 (by omega) h0 h1
 rw[show((2^0-1:Nat):Int)=0 from rfl,show(2:Int)^0=1 from rfl]at this;rw[this];omega
theorem MU {r m:Int} {b:Bool} (h:0<=r->(b=decide (r<=m))):(decide (0<=r)&&b)=(decide (0<=r)&&decide (r<=m)):=by
 by_cases h0:0<=r
 ·rw[h h0]
 ·simp[h0]
end Go.Sx
namespace Go.Proofs.YtghpaegglbbocaaGreat
open Go.Sx
set_option maxRecDepth 100000
theorem F3 (h:Bool) (n m:Int):
 (h&&decide (0<=n)&&decide (n<=m)|| !h&&decide (n=0))=fF h n m:=by
 unfold fF;cases h<;>simp
theorem G1:cj Tryz.prog 131 Mc:=
 J1 MM (fy .i64) (fy .i64) (fun _ _ _=>rfl) fun h n m _ _ _=>aW (inl:=bn) (ann:=aP) an (F3 h n m) (by kernel_rfl)
theorem HG:cj Tryz.prog 130 (Uk AL):=
 Uc rfl (aW (inl:=bn) (ann:=aP) an (G:=AL=AL) rfl (by kernel_rfl):ai _ _ _ _ (fun v _=>v=AL) (fun _ _=>False))
theorem Ts (k:Key) (hk:k.wf):
 ((decide (k.kind<0)||decide (10<k.kind))=true->
   {data:= {toList:= []}}=vX k/\
    false=dH k.kind/\
     false=nV k.kind/\
      false=fY k.kind/\false=jZ k.kind/\0=eN k.kind/\0=qB k.kind/\false=aT k)/\
   ((decide (k.kind<0)||decide (10<k.kind))=false->
     (0<=k.kind/\k.kind< ↑11)/\
      ah [mJ 0,mJ 1,mJ 2,mJ 3,mJ 4,mJ 5,mJ 6,mJ 7,mJ 8,mJ 9,mJ 10] k.kind.toNat
          {data:= {toList:= []}}=
        vX k/\
       ah [false,false,true,true,true,true,true,true,false,false,false] k.kind.toNat false=
         dH k.kind/\
        ah [false,false,true,true,false,false,false,false,false,false,false] k.kind.toNat false=
          nV k.kind/\
         ah [false,false,false,false,false,false,false,true,false,false,false] k.kind.toNat false=
           fY k.kind/\
          ah [false,true,false,false,false,false,true,false,false,false,false] k.kind.toNat false=
            jZ k.kind/\
           ah [0,0,7,1,0,0,0,0,0,0,0] k.kind.toNat 0=eN k.kind/\
            ah [0,0,1,2,1,1,1,1,0,0,0] k.kind.toNat 0=qB k.kind/\
             (fF
                (ah [false,false,true,true,true,true,true,true,false,false,false]
                 k.kind.toNat false)
                k.oid 63&&
                fF
                 (ah [false,false,true,true,true,true,true,true,false,false,false]
                  k.kind.toNat false)
                 k.count 4294967295&&
                fF
                 (ah [false,false,false,false,false,false,false,true,false,false,false]
                  k.kind.toNat false)
                 k.call 4294967295&&
                decide (0<=k.rights)&&
                decide
                 (bd BinOp.andNot IntKind.i64 k.rights
                   (ah [0,0,7,1,0,0,0,0,0,0,0] k.kind.toNat 0)=
                  0)&&
               (ah [false,true,false,false,false,false,true,false,false,false,false] k.kind.toNat
                 false||
                decide (k.value=0)))=
              aT k):=by
 obtain⟨kind,oid,count,call,rights,value⟩:=k;have hr:rights<=9223372036854775807:=hk.2.2.2.2.1.2;simp only;have he:(ByteArray.empty:ByteArray)= {data:= {toList:= []}}:=rfl;refine⟨fun h=>?_,fun h=>?_⟩
 ·simp only[Bool.or_eq_true,XL]at h;refine⟨?_,?_,?_,?_,?_,?_,?_,?_⟩<;>simp only[vX,Rs,dH,nV,fY,jZ,eN,qB,aT]<;>grind
 ·simp only[Bool.or_eq_false_iff,decide_eq_false_iff_not]at h;have hb:∀m,(0<=rights->(decide (bd .andNot .i64 rights m=0))=decide (rights<=m))->(decide (0<=rights)&&decide (bd .andNot .i64 rights m=0))=(decide (0<=rights)&&decide (rights<=m)):=fun m hm=>MU hm
  have h7:=hb 7 fun h0=>by rw[decide_eq_decide];exact P8 h0 hr
  have h1:=hb 1 fun h0=>by rw[decide_eq_decide];exact NR h0 hr
  have h0:=hb 0 fun h0=>by rw[decide_eq_decide];exact QG h0 hr
  have hc:kind=0\/kind=1\/kind=2\/kind=3\/kind=4\/kind=5\/kind=6\/kind=7\/kind=8\/kind=9\/kind=10:=by omega
  rcases hc with rfl|rfl|rfl|rfl|rfl|rfl|rfl|rfl|rfl|rfl|rfl<;>
   refine⟨⟨by decide,by decide⟩,rfl,rfl,rfl,rfl,rfl,rfl,rfl,?_⟩<;>
   simp only[ah,aT,dH,jZ,fY,eN,Int.reduceToNat,List.getD_cons_zero,List.getD_cons_succ,Bool.and_assoc]<;>
   simp+decide [fF]<;>grind
theorem wO:cj Tryz.prog 56 U2:=
 oI fx (fun _=>rfl) fun k hk=>aW (inl:=bn) (ann:=aP) (ae G1 (ae HG an)) (Ts k hk) (by kernel_rfl)
theorem OE (k:Key) (hk:k.wf):
 ((!aT k)=true->2=bD k)/\((!aT k)=false->0=bD k):=by
 unfold bD;cases aT k<;>simp
theorem jf:cj Tryz.prog 33 Ry:=
 oI fx (fun _=>rfl) fun k hk=>aW (inl:=bn) (ann:=aP) (ae wO an) (OE k hk) (by kernel_rfl)
theorem GG (k:Key) (hk:k.wf):
 ((!aT k|| !dH k.kind)=true->0=cR k/\false=bg k)/\
   ((!aT k|| !dH k.kind)=false->k.oid=cR k/\true=bg k):=by
 unfold cR bg;cases aT k<;>cases dH k.kind<;>simp
theorem eV:cj Tryz.prog 32 Lp:=
 oI fx (fun _=>rfl) fun k hk=>aW (inl:=bn) (ann:=aP) (ae wO an) (GG k hk) (by kernel_rfl)
theorem DX (k:Key) (o:Sx.Obj) (hk:k.wf):
 ((!aT k)=true->false=b7 k o)/\
   ((!aT k)=false->
     ((!dH k.kind)=true->true=b7 k o)/\
       ((!dH k.kind)=false->
         (decide (o.kind=qB k.kind)&&decide (o.count=k.count)&&
           (!fY k.kind||decide (o.calls=k.call)))=
          b7 k o)):=by
 cases hok:aT k
 ·simp[b7,hok]
 ·have h0:dH k.kind=true->0<=k.oid:=fun h=>by
   simp only[aT,fF,h,if_true,XK,XL]at hok;omega
  simp only[b7,fN,aX,qB,fY,hok,Bool.true_and];simp only[dH]at *;grind
theorem ya:cj Tryz.prog 57 BS:=
 mz fx yk (fun _ _=>rfl) fun k o hk _=>aW (inl:=bn) (ann:=aP) (ae wO an) (DX k o hk) (by kernel_rfl)
theorem T7 (n:Int):
 (decide (2<=n)&&decide (n<=7))=dH n/\
  (decide (n=2)||decide (n=3))=nV n/\
   decide (n=7)=fY n/\(decide (n=1)||decide (n=6))=jZ n:=by
 exact⟨rfl,rfl,rfl,rfl⟩
theorem I5:cj Tryz.prog 28 UO:=
 oI (fy .i64) (fun _=>rfl) fun n _=>aW (inl:=bn) (ann:=aP) an (T7 n) (by kernel_rfl)
theorem O5 (k:Key) (hk:k.wf):
 (nV k.kind=true->
   (decide (k.kind=3)=true->
     ((decide (k.kind<0)||decide (10<k.kind)||decide (k.rights<0)||decide (1<k.rights)||
        !jZ k.kind&& !decide (k.value=0))=
        true->
       2=bD k)/\
       ((decide (k.kind<0)||decide (10<k.kind)||decide (k.rights<0)||decide (1<k.rights)||
          !jZ k.kind&& !decide (k.value=0))=
         false->
         ((dH k.kind&&
            (decide (k.oid<0)||decide (64<=k.oid)||decide (k.count<0)||
             decide (4294967295<k.count))||
               !dH k.kind&&(!decide (k.oid=0)|| !decide (k.count=0)))=
            true->
           2=bD k)/\
           ((dH k.kind&&
                (decide (k.oid<0)||decide (64<=k.oid)||decide (k.count<0)||
                 decide (4294967295<k.count))||
              !dH k.kind&&(!decide (k.oid=0)|| !decide (k.count=0)))=
             false->
             ((fY k.kind&&(decide (k.call<0)||decide (4294967295<k.call))||
                  !fY k.kind&& !decide (k.call=0))=
                true->
               2=bD k)/\
               ((fY k.kind&&(decide (k.call<0)||decide (4294967295<k.call))||
                  !fY k.kind&& !decide (k.call=0))=
                 false->
                 0=bD k))))/\
    (decide (k.kind=3)=false->
     ((decide (k.kind<0)||decide (10<k.kind)||decide (k.rights<0)||decide (7<k.rights)||
        !jZ k.kind&& !decide (k.value=0))=
        true->
       2=bD k)/\
       ((decide (k.kind<0)||decide (10<k.kind)||decide (k.rights<0)||decide (7<k.rights)||
          !jZ k.kind&& !decide (k.value=0))=
         false->
         ((dH k.kind&&
            (decide (k.oid<0)||decide (64<=k.oid)||decide (k.count<0)||
             decide (4294967295<k.count))||
               !dH k.kind&&(!decide (k.oid=0)|| !decide (k.count=0)))=
            true->
           2=bD k)/\
           ((dH k.kind&&
                (decide (k.oid<0)||decide (64<=k.oid)||decide (k.count<0)||
                 decide (4294967295<k.count))||
              !dH k.kind&&(!decide (k.oid=0)|| !decide (k.count=0)))=
             false->
             ((fY k.kind&&(decide (k.call<0)||decide (4294967295<k.call))||
                  !fY k.kind&& !decide (k.call=0))=
                true->
               2=bD k)/\
               ((fY k.kind&&(decide (k.call<0)||decide (4294967295<k.call))||
                  !fY k.kind&& !decide (k.call=0))=
                 false->
                 0=bD k)))))/\
  (nV k.kind=false->
   (decide (k.kind=3)=true->
     ((decide (k.kind<0)||decide (10<k.kind)||decide (k.rights<0)||decide (1<k.rights)||
        !jZ k.kind&& !decide (k.value=0))=
        true->
       2=bD k)/\
       ((decide (k.kind<0)||decide (10<k.kind)||decide (k.rights<0)||decide (1<k.rights)||
          !jZ k.kind&& !decide (k.value=0))=
         false->
         ((dH k.kind&&
            (decide (k.oid<0)||decide (64<=k.oid)||decide (k.count<0)||
             decide (4294967295<k.count))||
               !dH k.kind&&(!decide (k.oid=0)|| !decide (k.count=0)))=
            true->
           2=bD k)/\
           ((dH k.kind&&
                (decide (k.oid<0)||decide (64<=k.oid)||decide (k.count<0)||
                 decide (4294967295<k.count))||
              !dH k.kind&&(!decide (k.oid=0)|| !decide (k.count=0)))=
             false->
             ((fY k.kind&&(decide (k.call<0)||decide (4294967295<k.call))||
                  !fY k.kind&& !decide (k.call=0))=
                true->
               2=bD k)/\
               ((fY k.kind&&(decide (k.call<0)||decide (4294967295<k.call))||
                  !fY k.kind&& !decide (k.call=0))=
                 false->
                 0=bD k))))/\
    (decide (k.kind=3)=false->
     ((decide (k.kind<0)||decide (10<k.kind)||decide (k.rights<0)||decide (0<k.rights)||
        !jZ k.kind&& !decide (k.value=0))=
        true->
       2=bD k)/\
       ((decide (k.kind<0)||decide (10<k.kind)||decide (k.rights<0)||decide (0<k.rights)||
          !jZ k.kind&& !decide (k.value=0))=
         false->
         ((dH k.kind&&
            (decide (k.oid<0)||decide (64<=k.oid)||decide (k.count<0)||
             decide (4294967295<k.count))||
               !dH k.kind&&(!decide (k.oid=0)|| !decide (k.count=0)))=
            true->
           2=bD k)/\
           ((dH k.kind&&
                (decide (k.oid<0)||decide (64<=k.oid)||decide (k.count<0)||
                 decide (4294967295<k.count))||
              !dH k.kind&&(!decide (k.oid=0)|| !decide (k.count=0)))=
             false->
             ((fY k.kind&&(decide (k.call<0)||decide (4294967295<k.call))||
                  !fY k.kind&& !decide (k.call=0))=
                true->
               2=bD k)/\
               ((fY k.kind&&(decide (k.call<0)||decide (4294967295<k.call))||
                  !fY k.kind&& !decide (k.call=0))=
                 false->
                 0=bD k))))):=by
 simp only[bD,aT,fF,eN,nV];rcases Bool.eq_false_or_eq_true (dH k.kind)with hA|hA<;>rcases Bool.eq_false_or_eq_true (fY k.kind)with hB|hB<;>rcases Bool.eq_false_or_eq_true (jZ k.kind)with hC|hC<;>simp only[hA,hB,hC,Bool.true_and,Bool.false_and,Bool.not_true,Bool.not_false,Bool.or_false,Bool.false_or,Bool.true_or,if_true,Bool.false_eq_true,if_false,Bool.and_true]<;>grind
theorem qT:cj Tryz.prog 15 Ry:=
 oI fx (fun _=>rfl) fun k hk=>aW (inl:=bn) (ann:=aP) (ae I5 an) (O5 k hk) (by kernel_rfl)
theorem Gx (k:Key) (hk:k.wf):
 ((!decide (bD k=0)|| !dH k.kind)=true-> -1=aX k)/\
   ((!decide (bD k=0)|| !dH k.kind)=false->k.oid=aX k):=by
 unfold aX bD;cases aT k<;>cases dH k.kind<;>simp
theorem lX:cj Tryz.prog 17 Jm:=
 oI fx (fun _=>rfl) fun k hk=>aW (inl:=bn) (ann:=aP) (ae I5 (ae qT an)) (Gx k hk) (by kernel_rfl)
theorem GB (k:Key) (hk:k.wf):
 (decide (aX k<0)=true->0=fN k)/\
  (decide (aX k<0)=false->
   (decide (k.kind=3)=true->2=fN k)/\(decide (k.kind=3)=false->1=fN k)):=by
 unfold fN;grind
theorem GX:cj Tryz.prog 190 K8:=
 oI fx (fun _=>rfl) fun k hk=>aW (inl:=bn) (ann:=aP) (ae lX an) (GB k hk) (by kernel_rfl)
theorem Eg (k:Key) (o:Sx.Obj) (hk:k.wf):
 ((!decide (bD k=0))=true->false=b7 k o)/\
   ((!decide (bD k=0))=false->
     (decide (aX k<0)=true->true=b7 k o)/\
      (decide (aX k<0)=false->
       (decide (o.kind=fN k)&&decide (o.count=k.count)&&
         (!decide (k.kind=7)||decide (o.calls=k.call)))=
        b7 k o)):=by
 unfold b7 bD;cases aT k<;>grind
theorem D4:cj Tryz.prog 175 BS:=
 mz fx yk (fun _ _=>rfl) fun k o hk _=>aW (inl:=bn) (ann:=aP) (ae qT (ae lX (ae GX an))) (Eg k o hk) (by kernel_rfl)
end Go.Proofs.YtghpaegglbbocaaGreat
namespace Go.Sx
def h9 (kind n:Int) (k:Key):Bool:=aT k&&decide (aX k<n)&&(decide (kind=1)||decide (k=void))
def bT (o:Obj) (n:Int):Bool:=
 decide (1<=n)&&decide (n<=64)&&decide (0<=o.kind)&&decide (o.kind<=3)&&decide (0<=o.count)&&decide (o.count<=4294967295)&&decide (0<=o.calls)&&decide (o.calls<=4294967295)&&
 (decide (o.kind=1)||decide (o.calls=0))&&(List.range 16).all (fun i=>h9 o.kind n (o.slots.at i))&&
 (List.range 64).all (fun i=>decide (o.kind=1)||decide (o.kind=2)||decide (o.bytes.at i=0))
def cE (o:Obj) (n:Int):Int:=if bT o n then 0 else 2
def j9 (o:Obj) (b:Bool):Bool:=decide (o.slots=fV)&&(b||decide (o.bytes=fT))&&decide (o.calls=0)
def Az (o:Obj) (n:Int) (i:Int):Prop:=0<=i/\i<=16/\∀j:Nat,(j:Int)<i->h9 o.kind n (o.slots.at j)=true
def Bf (o:Obj) (n:Int) (i:Int):Prop:=0<=i/\i<=64/\(∀j:Nat,j<16->h9 o.kind n (o.slots.at j)=true)/\∀j:Nat,(j:Int)<i->(o.kind=1\/o.kind=2\/o.bytes.at j=0)
def nY (o:Obj) (n:Int) (i:Int):Bool:=(List.range i.toNat).all fun j=>aT (o.slots.at j)&&decide (aX (o.slots.at j)<n)
def Ax (i:Int):Prop:=0<=i/\i<=16
def RX:Ct:=Qn rO toBool fun o b=> .bo (j9 o b)
def IW:Ct:=Qn rO (rI .i64) fun o n=> .it .i64 (cE o n)
theorem fg {o:Obj} {n:Int}:bT o n=true↔1<=n/\n<=64/\0<=o.kind/\o.kind<=3/\0<=o.count/\o.count<=4294967295/\0<=o.calls/\o.calls<=4294967295/\
  (o.kind=1\/o.calls=0)/\(∀i,i<16->h9 o.kind n (o.slots.at i)=true)/\∀i,i<64->(o.kind=1\/o.kind=2)\/o.bytes.at i=0:=by
 simp only[bT,XK,XL,Bool.or_eq_true,List.all_eq_true,List.mem_range,and_assoc]
theorem oh {o:Obj} {n:Int} (h:¬bT o n=true):2=cE o n:=by simp[cE,h]
theorem py {o:Obj} {n:Int} (h:bT o n=true):0=cE o n:=by simp[cE,h]
theorem G3 (kind n:Int) (k:Key):(!decide (bD k=0)||decide (n<=aX k)|| !decide (kind=1)&& !wC k void)= !h9 kind n k:=by
 unfold h9 bD wC;cases aT k<;>grind
theorem PJ (b:UInt8):decide (P7 b=0)=decide (b=0):=by
 rw[decide_eq_decide,P7];constructor
 ·intro h;have:b.toNat=0:=by omega
  exact UInt8.toNat_inj.1 (by simpa using this)
 ·rintro rfl;rfl
theorem EI {s:cQ}:s=fV↔ ∀i,i<16->s.at i=void:=by
 constructor
 ·rintro rfl i _;exact xg i
 ·intro h;refine Vector.ext fun i hi=>?_
  have:=h i hi;unfold cQ.at at this;simp only[fV,Vector.getElem_replicate];rw[<-this];simp[hi]
theorem Fu {s:Bytes}:s=fT↔ ∀i,i<64->s.at i=0:=by
 constructor
 ·rintro rfl i hi
  unfold Bytes.at fT;simp[hi]
 ·intro h;refine Vector.ext fun i hi=>?_
  have:=h i hi;unfold Bytes.at at this;simp only[fT,Vector.getElem_replicate];rw[<-this];simp[hi]
theorem oi:aT void=true/\aX void= -1:=by decide
theorem vu {kind n:Int} (hk:kind≠1) (hn:1<=n) (k:Key):h9 kind n k=true↔k=void:=by
 unfold h9;simp only[XK,XL,Bool.or_eq_true];constructor
 ·rintro⟨_,h|h⟩
  ·exact absurd h hk
  ·exact h
 ·rintro rfl
  exact⟨⟨oi.1,by rw[oi.2];omega⟩,.inr rfl⟩
theorem J7 {o:Obj} {b:Bool}:j9 o b=true↔(∀i,i<16->o.slots.at i=void)/\(b=true\/∀i,i<64->o.bytes.at i=0)/\o.calls=0:=by
 simp only[j9,XK,XL,Bool.or_eq_true,EI,Fu,and_assoc]
theorem Ds {o:Obj} {n:Int} (h1:1<=n) (h2:n<=64) (h3:0<=o.count) (h4:o.count<=4294967295) (h5:0<=o.calls) (h6:o.calls<=4294967295) {b:Bool} (hk:0<=o.kind/\o.kind<=3/\o.kind≠1) (hb:b=decide (o.kind=2)):
  bT o n=j9 o b:=by
 rw[Bool.eq_iff_iff,fg,J7];subst hb;constructor
 ·rintro⟨_,_,_,_,_,_,_,_,h,hs,hz⟩
  refine⟨fun i hi=>(vu hk.2.2 h1 _).1 (hs i hi),?_,h.resolve_left hk.2.2⟩
  by_cases h2:o.kind=2
  ·exact .inl (by simp[h2])
  ·exact .inr fun i hi=>(hz i hi).resolve_left fun h=>h.elim hk.2.2 h2
 ·rintro⟨hs,hz,hc⟩
  refine⟨h1,h2,hk.1,hk.2.1,h3,h4,h5,h6,.inr hc,fun i hi=>(vu hk.2.2 h1 _).2 (hs i hi),fun i hi=>?_⟩
  rcases hz with h|h
  ·exact .inl (.inr (by simpa using h))
  ·exact .inr (h i hi)
theorem Dw {o:Obj} {n:Int} (h1:1<=n) (h2:n<=64) (h3:0<=o.count) (h4:o.count<=4294967295) (h5:0<=o.calls) (h6:o.calls<=4294967295) (hk:o.kind=1):bT o n=nY o n 16:=by
 rw[Bool.eq_iff_iff,fg];simp only[nY,List.all_eq_true,List.mem_range,hk,h9,XK,decide_true,Bool.true_or,and_true];constructor
 ·rintro⟨_,_,_,_,_,_,_,_,_,hs,_⟩
  exact fun i hi=>hs i hi
 ·intro hs;exact⟨h1,h2,by omega,by omega,h3,h4,h5,h6,.inl trivial,fun i hi=>hs i hi,fun i hi=> .inl (.inl trivial)⟩
theorem MF {o:Obj} {n g:Int}:(nY o n g&&decide (bD (o.slots.at g.toNat)=0)&&(!bg (o.slots.at g.toNat)||decide (cR (o.slots.at g.toNat)<n)))=
  (nY o n g&&(aT (o.slots.at g.toNat)&&(!bg (o.slots.at g.toNat)||decide ((o.slots.at g.toNat).oid<n)))):=by
 unfold bD cR;cases aT (o.slots.at g.toNat)<;>cases bg (o.slots.at g.toNat)<;>simp
theorem J3 {o:Obj} {n g:Int} (h0:0<=g) (hn:1<=n):(nY o n g&&decide (bD (o.slots.at g.toNat)=0)&&(!bg (o.slots.at g.toNat)||decide (cR (o.slots.at g.toNat)<n)))=nY o n (g+1):=by
 rw[MF];unfold nY;rw[show(g+1).toNat=g.toNat+1 by omega,List.range_succ,List.all_append]
 simp only[List.all_cons,List.all_nil,Bool.and_true];congr 1
 unfold aX bg;cases aT (o.slots.at g.toNat)
 ·rfl
 ·cases dH (o.slots.at g.toNat).kind
  ·simp;omega
  ·simp
end Go.Sx
namespace Go.Proofs.YtghpaegglbbocaaGreat
open Go.Sx
set_option maxRecDepth 100000
theorem PT (o:Sx.Obj) (b:Bool):
 (CU o.slots fV&&(b||CX o.bytes fT)&&decide (o.calls=0))=j9 o b:=by
 unfold j9 CU CX;rfl
theorem Nu:cj Tryz.prog 174 RX:=
 mz yk MM (fun _ _=>rfl) fun o b _ _=>aW (inl:=bn) (ann:=aP) an (PT o b) (by kernel_rfl)
theorem IE (o:Sx.Obj) (n:Int):
 ((decide (n<1)||decide (64<n)||decide (o.kind<0)||decide (3<o.kind)||decide (o.count<0)||
             decide (4294967295<o.count)||
            decide (o.calls<0)||
           decide (4294967295<o.calls)||
    !decide (o.kind=1)&& !decide (o.calls=0))=
    true->
   2=cE o n)/\
   ((decide (n<1)||decide (64<n)||decide (o.kind<0)||decide (3<o.kind)||decide (o.count<0)||
              decide (4294967295<o.count)||
             decide (o.calls<0)||
      decide (4294967295<o.calls)||
      !decide (o.kind=1)&& !decide (o.calls=0))=
     false->
     (∃g,Az o n g/\n=n/\o.kind=o.kind/\0=g/\o=o)/\
      ∀(g:Int),
       Az o n g->
        (decide (g<16)=true->
          (0<=g/\g< ↑16)/\
           ((!!decide (bD (o.slots.at g.toNat)=0))=true->0<=g/\g< ↑16)/\
             ((!decide (o.kind=1)&&
                !(!decide (bD (o.slots.at g.toNat)=0)||
                  decide (n<=aX (o.slots.at g.toNat))))=
                true->
               0<=g/\g< ↑16)/\
               ((!decide (bD (o.slots.at g.toNat)=0)||decide (n<=aX (o.slots.at g.toNat))||
                  !decide (o.kind=1)&& !wC (o.slots.at g.toNat) void)=
                  true->
                 2=cE o n)/\
                 ((!decide (bD (o.slots.at g.toNat)=0)||decide (n<=aX (o.slots.at g.toNat))||
                    !decide (o.kind=1)&& !wC (o.slots.at g.toNat) void)=
                   false->
                   aI IntKind.i64 (g+1)/\
                    ∃g',
                     Az o n g'/\
                      (16-g').toNat<(16-g).toNat/\n=n/\o.kind=o.kind/\g+1=g'/\o=o))/\
         (decide (g<16)=false->
          (∃g,Bf o n g/\n=n/\o.kind=o.kind/\0=g/\o=o)/\
           ∀(g:Int),
            Bf o n g->
             (decide (g<64)=true->
               ((!decide (o.kind=1)&& !decide (o.kind=2))=true->0<=g/\g< ↑64)/\
                 ((!decide (o.kind=1)&& !decide (o.kind=2)&&
                    !decide (P7 (o.bytes.at g.toNat)=0))=
                    true->
                   2=cE o n)/\
                   ((!decide (o.kind=1)&& !decide (o.kind=2)&&
                      !decide (P7 (o.bytes.at g.toNat)=0))=
                     false->
                     aI IntKind.i64 (g+1)/\
                      ∃g',
                       Bf o n g'/\
                        (64-g').toNat<(64-g).toNat/\
                         n=n/\o.kind=o.kind/\g+1=g'/\o=o))/\
              (decide (g<64)=false->0=cE o n))):=by
 refine⟨fun h=>oh fun hh=>?_,fun h=>⟨⟨0,⟨by omega,by omega,fun j hj=>by omega⟩,rfl,rfl,rfl,rfl⟩,fun g hg=>⟨fun hlt=>?_,fun hge=>?_⟩⟩⟩
 ·have:=fg.1 hh;simp only[Bool.or_eq_true,XK,Bool.not_eq_true',XL,decide_eq_false_iff_not]at h;omega
 ·obtain⟨g0,g1,g2⟩:=hg;have hlt:=XO hlt;rw[G3];refine⟨⟨g0,by omega⟩,fun _=>⟨g0,by omega⟩,fun _=>⟨g0,by omega⟩,fun hbad=>oh fun hh=>?_,fun hok=>⟨?_,g+1,⟨by omega,by omega,fun j hj=>?_⟩,by omega,rfl,rfl,rfl,rfl⟩⟩
  ·have:=(fg.1 hh).2.2.2.2.2.2.2.2.2.1 g.toNat (by omega)
   rw[this]at hbad;simp at hbad
  ·simp only[aI,cg];omega
  ·by_cases e:(j:Int)<g
   ·exact g2 j e
   ·have:j=g.toNat:=by omega
    subst this;simpa using hok
 ·obtain⟨g0,g1,g2⟩:=hg;have hge:¬g<16:=XN hge;refine⟨⟨0,⟨by omega,by omega,fun j hj=>g2 j (by omega),fun j hj=>by omega⟩,rfl,rfl,rfl,rfl⟩,fun g hg=>⟨fun hlt=>?_,fun hge=>py ?_⟩⟩
  ·obtain⟨k0,k1,k2,k3⟩:=hg;have hlt:=XO hlt;simp only[PJ];refine⟨fun _=>⟨k0,by omega⟩,fun hbad=>oh fun hh=>?_,fun hok=>⟨?_,g+1,⟨by omega,by omega,k2,fun j hj=>?_⟩,by omega,by simp⟩⟩
   ·have:=(fg.1 hh).2.2.2.2.2.2.2.2.2.2 g.toNat (by omega)
    simp only[XK,Bool.not_eq_true',decide_eq_false_iff_not]at hbad;grind
   ·simp only[aI,cg];omega
   ·by_cases e:(j:Int)<g
    ·exact k3 j e
    ·have:j=g.toNat:=by omega
     subst this;simp only[Bool.and_eq_false_iff,Bool.not_eq_false',XL]at hok;grind
  ·obtain⟨k0,k1,k2,k3⟩:=hg;have hge:¬g<64:=XN hge;simp only[Bool.or_eq_false_iff,Bool.and_eq_false_iff,Bool.not_eq_false',XL,decide_eq_false_iff_not]at h;refine fg.2 ⟨by omega,by omega,by omega,by omega,by omega,by omega,by omega,by omega,by omega,k2,fun i hi=>?_⟩
   have:=k3 i (by omega)
   grind
theorem JP:cj Tryz.prog 40 IW:=
 mz yk (fy .i64) (fun _ _=>rfl) fun o n _ _=>aW (inl:=bn) (ann:=(jC [(40,5,Xe [1,2,5] 6 (Az o n) 16),(40,10,Xe [1,2,5] 7 (Bf o n) 64)])) (ae qT (ae lX an)) (IE o n) (by kernel_rfl)
theorem Qw (o:Sx.Obj) (n:Int):
 ((decide (n<1)||decide (64<n)||decide (o.count<0)||decide (4294967295<o.count)||
           decide (o.calls<0)||
    decide (4294967295<o.calls))=
    true->
   2=cE o n)/\
   ((decide (n<1)||decide (64<n)||decide (o.count<0)||decide (4294967295<o.count)||
      decide (o.calls<0)||
      decide (4294967295<o.calls))=
     false->
     (decide (o.kind=0)=true->
       ((!j9 o false)=true->2=cE o n)/\((!j9 o false)=false->0=cE o n))/\
      (decide (o.kind=0)=false->
       (decide (o.kind=3)=true->
         ((!j9 o false)=true->2=cE o n)/\((!j9 o false)=false->0=cE o n))/\
        (decide (o.kind=3)=false->
         (decide (o.kind=2)=true->
           ((!j9 o true)=true->2=cE o n)/\((!j9 o true)=false->0=cE o n))/\
          (decide (o.kind=2)=false->
           (decide (o.kind=1)=true->
             (∃g,Ax g/\n=n/\true=nY o n g/\o.slots=o.slots/\0=g/\o=o)/\
              ∀(g:Int),
               Ax g->
                (decide (g<16)=true->
                  (0<=g/\g< ↑16)/\
                   aI IntKind.i64 (g+1)/\
                    ∃g',
                     Ax g'/\
                      (16-g').toNat<(16-g).toNat/\
                       n=n/\
                        (nY o n g&&decide (bD (o.slots.at g.toNat)=0)&&
                           (!bg (o.slots.at g.toNat)||
                            decide (cR (o.slots.at g.toNat)<n)))=
                          nY o n g'/\
                         o.slots=o.slots/\g+1=g'/\o=o)/\
                 (decide (g<16)=false->
                  ((!nY o n g)=true->2=cE o n)/\((!nY o n g)=false->0=cE o n)))/\
            (decide (o.kind=1)=false->2=cE o n))))):=by
 refine⟨fun h=>oh fun hh=>?_,fun h=>?_⟩
 ·have:=fg.1 hh;simp only[Bool.or_eq_true,XL]at h;omega
 ·simp only[Bool.or_eq_false_iff,decide_eq_false_iff_not]at h
  have hb:∀(b:Bool),(0<=o.kind/\o.kind<=3/\o.kind≠1)->b=decide (o.kind=2)->((!j9 o b)=true->2=cE o n)/\((!j9 o b)=false->0=cE o n):=fun b h1 h2=>by
   have he:=Ds (o:=o) (n:=n) (b:=b) (by omega) (by omega) (by omega) (by omega) (by omega) (by omega) h1 h2
   exact⟨fun hn=>oh (by rw[he];simpa using hn),fun hy=>py (by rw[he];simpa using hy)⟩
  refine⟨fun h0=>?_,fun h0=>⟨fun h3=>?_,fun h3=>⟨fun h2=>?_,fun h2=>⟨fun h1=>⟨⟨0,⟨by omega,by omega⟩,rfl,rfl,rfl,rfl,rfl⟩,fun g hg=>⟨fun hlt=>?_,fun hge=>?_⟩⟩,fun h1=>oh fun hh=>?_⟩⟩⟩⟩
  ·have h0:=XO h0;exact hb false (by omega) (by simp[h0])
  ·have h3:=XO h3;exact hb false (by omega) (by simp[h3])
  ·have h2:=XO h2;exact hb true (by omega) (by simp[h2])
  ·obtain⟨g0,g1⟩:=hg;have hlt:=XO hlt;refine⟨⟨g0,by omega⟩,by simp only[aI,cg];omega,g+1,⟨by omega,by omega⟩,by omega,rfl,J3 g0 (by omega),rfl,rfl,rfl⟩
  ·obtain⟨g0,g1⟩:=hg;have hge:¬g<16:=XN hge;have h1:=XO h1;have e:g=16:=by omega
   subst e;have he:=Dw (o:=o) (n:=n) (by omega) (by omega) (by omega) (by omega) (by omega) (by omega) h1
   exact⟨fun hn=>oh (by rw[he];simpa using hn),fun hy=>py (by rw[he];simpa using hy)⟩
  ·have:=fg.1 hh;have h0:¬o.kind=0:=XN h0;have h1:¬o.kind=1:=XN h1;have h2:¬o.kind=2:=XN h2;have h3:¬o.kind=3:=XN h3;omega
theorem AX:cj Tryz.prog 108 IW:=
 mz yk (fy .i64) (fun _ _=>rfl) fun o n _ _=>aW (inl:=bn) (ann:=(jC [(108,12,T2 [1,2,51] (fun g=> [(52,.it .i64 g),(5,.bo (nY o n g))]) Ax 16)])) (ae Nu (ae jf (ae eV an))) (Qw o n) (by kernel_rfl)
end Go.Proofs.YtghpaegglbbocaaGreat
