import Derived.Test.YtlblcfaclmpekaaGreatSxF
set_option linter.unusedSimpArgs false
set_option linter.unusedVariables false
namespace Go.Sx
def eZ (h:Bool) (n m:Int):Bool:=if h then decide (0<=n)&&decide (n<=m)else decide (n=0)
def gD (n:Int):Bool:=decide (2<=n)&&decide (n<=7)
def uq (n:Int):Bool:=decide (n=2)||decide (n=3)
def oJ (n:Int):Bool:=decide (n=7)
def qB (n:Int):Bool:=decide (n=1)||decide (n=6)
def ei (n:Int):Int:=if n=2 then 7 else if n=3 then 1 else 0
def aS (k:Key):Bool:=
 decide (0<=k.kind)&&decide (k.kind<=10)&&decide (0<=k.rights)&&decide (k.rights<=ei k.kind)&&(qB k.kind||decide (k.value=0))&&
 eZ (gD k.kind) k.oid 63&&eZ (gD k.kind) k.count 4294967295&&eZ (oJ k.kind) k.call 4294967295
def bT (k:Key):Int:=if aS k then 0 else 2
def cO (k:Key):Int:=if aS k&&gD k.kind then k.oid else -1
def iK (k:Key):Int:=if cO k<0 then 0 else if k.kind=3 then 2 else 1
def ck (k:Key) (o:Obj):Bool:=
 aS k&&(decide (cO k<0)||(decide (o.kind=iK k)&&decide (o.count=k.count)&&(!decide (k.kind=7)||decide (o.calls=k.call))))
def OG (k:Key):Bool:=decide (0<=k.kind)&&decide (k.kind<=10)
def lL (n:Nat):ByteArray:=
 match n with
 |0=> "void".toUTF8
 |1=> "number".toUTF8
 |2=> "node".toUTF8
 |3=> "page".toUTF8
 |4=> "bank".toUTF8
 |5=> "proc".toUTF8
 |6=> "start".toUTF8
 |7=> "resume".toUTF8
 |8=> "discrim".toUTF8
 |9=> "clock".toUTF8
 |10=> "check".toUTF8
 |_=>ByteArray.empty
def kd (s:ByteArray) (a b c d:Bool) (m w:Int):V:= .ag [.st s,.cb a,.cb b,.cb c,.cb d,.ci .i64 m,.ci .i64 w]
def zs:V:= .ag [kd (lL 0) false false false false 0 0,kd (lL 1) false false false true 0 0,kd (lL 2) true true false false 7 1,kd (lL 3) true true false false 1 2,
 kd (lL 4) true false false false 0 1,kd (lL 5) true false false false 0 1,kd (lL 6) true false false true 0 1,kd (lL 7) true false true false 0 1,
 kd (lL 8) false false false false 0 0,kd (lL 9) false false false false 0 0,kd (lL 10) false false false false 0 0]
def uW (k:Key):ByteArray:=if OG k then lL k.kind.toNat else ByteArray.empty
def qj (n:Int):Int:=if n=3 then 2 else if 2<=n/\n<=7 then 1 else 0
def Iq:Ct:=T6 toBool (rI .i64) (rI .i64) fun h n m=> .bo (eZ h n m)
def So:Ct:=RV rK fun k=> .tp [.ag [.st (uW k),.bo (gD k.kind),.bo (uq k.kind),.bo (oJ k.kind),.bo (qB k.kind),.it .i64 (ei k.kind),.it .i64 (qj k.kind)],.bo (aS k)]
def Ts:Ct:=RV rK fun k=> .it .i64 (bT k)
def aP (k:Key):Bool:=aS k&&gD k.kind
def bH (k:Key):Int:=if aP k then k.oid else 0
def Hg:Ct:=RV rK fun k=> .tp [.it .i64 (bH k),.bo (aP k)]
def JT:Ct:=Qs rK rO fun k o=> .bo (ck k o)
theorem wrap_i64 {n:Int} (h:cj .i64 n):IntKind.wrap .i64 n=n:=by
 have:=h;simp only[cj]at this;unfold IntKind.wrap;simp[IntKind.bits,IntKind.signed];omega
theorem qT {r:Int} (j:Nat) (hj:j<63) (h0:0<=r) (h1:r<=9223372036854775807):aV .andNot .i64 r ((2^j-1:Nat):Int)=0↔r<2^j:=by
 obtain⟨n,rfl⟩:=Int.eq_ofNat_of_zero_le h0;have hn:n<2^64:=by omega
 have hbit:∀i,(BitVec.ofInt 64 (n:Int)).getLsbD i=n.testBit i:=by
  intro i;rw[BitVec.ofInt_natCast,BitVec.getLsbD_ofNat];by_cases hi:i<64
  ·simp[hi]
  ·rw[Nat.testBit_lt_two_pow (Nat.lt_of_lt_of_le hn (Nat.pow_le_pow_right (by omega) (by omega)))];simp
 have hx:(BitVec.ofInt 64 (n:Int) &&& ~~~BitVec.ofInt 64 ((2^j-1:Nat):Int)).toNat=0↔n<2^j:=by
  constructor
  ·intro h;refine Nat.lt_pow_two_of_testBit _ fun i hi=>?_
   rcases Nat.lt_or_ge i 64 with h64|h64
   ·have h2:(BitVec.ofInt 64 (n:Int) &&& ~~~BitVec.ofInt 64 ((2^j-1:Nat):Int)).getLsbD i=false:=by
     rw[BitVec.getLsbD,h];simp
    rw[BitVec.getLsbD_and,hbit,BitVec.getLsbD_not,BitVec.ofInt_natCast,BitVec.getLsbD_ofNat,Nat.testBit_two_pow_sub_one]at h2;simp only[h64,decide_true,Bool.true_and,show¬i<j by omega,decide_false,Bool.not_false,Bool.and_true]at h2
    exact h2
   ·exact Nat.testBit_lt_two_pow (Nat.lt_of_lt_of_le hn (Nat.pow_le_pow_right (by omega) h64))
  ·intro h
   have:BitVec.ofInt 64 (n:Int) &&& ~~~BitVec.ofInt 64 ((2^j-1:Nat):Int)=0#64:=by
    refine BitVec.eq_of_getLsbD_eq fun i hi=>?_
    rw[BitVec.getLsbD_and,hbit,BitVec.getLsbD_not,BitVec.ofInt_natCast,BitVec.getLsbD_ofNat,Nat.testBit_two_pow_sub_one];by_cases hij:i<j
    ·simp[hij,hi]
    ·rw[Nat.testBit_lt_two_pow (Nat.lt_of_lt_of_le h (Nat.pow_le_pow_right (by omega) (by omega)))];simp
   rw[this];rfl
 have hle:(BitVec.ofInt 64 (n:Int) &&& ~~~BitVec.ofInt 64 ((2^j-1:Nat):Int)).toNat<=n:=by
  rw[BitVec.toNat_and];refine Nat.le_trans Nat.and_le_left ?_;rw[BitVec.ofInt_natCast,BitVec.toNat_ofNat];exact Nat.mod_le _ _
 have hp:((2^j:Nat):Int)=(2:Int)^j:=by simp
 change IntKind.wrap .i64 (((BitVec.ofInt 64 (n:Int) &&& ~~~BitVec.ofInt 64 ((2^j-1:Nat):Int)).toNat:Nat):Int)=0↔_
 generalize (BitVec.ofInt 64 (n:Int) &&& ~~~BitVec.ofInt 64 ((2^j-1:Nat):Int)).toNat=x at *
 rw[wrap_i64 (by simp only[cj];omega),<-hp]
 omega
theorem ML {r:Int} (h0:0<=r) (h1:r<=9223372036854775807):aV .andNot .i64 r 7=0↔r<=7:=by
 have:=qT 3 (by omega) h0 h1
 rw[show((2^3-1:Nat):Int)=7 from rfl,show(2:Int)^3=8 from rfl]at this;rw[this];omega
theorem MA {r:Int} (h0:0<=r) (h1:r<=9223372036854775807):aV .andNot .i64 r 1=0↔r<=1:=by
 have:=qT 1 (by omega) h0 h1
 rw[show((2^1-1:Nat):Int)=1 from rfl,show(2:Int)^1=2 from rfl]at this;rw[this];omega
theorem Ma {r:Int} (h0:0<=r) (h1:r<=9223372036854775807):aV .andNot .i64 r 0=0↔r<=0:=by
 have:=qT 0 (by omega) h0 h1
 rw[show((2^0-1:Nat):Int)=0 from rfl,show(2:Int)^0=1 from rfl]at this;rw[this];omega
theorem KI {r m:Int} {b:Bool} (h:0<=r->(b=decide (r<=m))):(decide (0<=r)&&b)=(decide (0<=r)&&decide (r<=m)):=by
 by_cases h0:0<=r
 ·rw[h h0]
 ·simp[h0]
end Go.Sx
namespace Go.Proofs.YtlblcfaclmpekaaGreat
open Go.Sx
set_option maxRecDepth 100000
theorem FM (h:Bool) (n m:Int):
 (h&&decide (0<=n)&&decide (n<=m)|| !h&&decide (n=0))=eZ h n m:=by
 unfold eZ;cases h<;>simp
theorem FR:dC Tryz.prog 105 Iq:=
 Li H5 (gR .i64) (gR .i64) (fun _ _ _=>rfl) fun h n m _ _ _=>bu (inl:=ca) (ann:=aR) au (FM h n m) (by kernel_rfl)
theorem IX:dC Tryz.prog 104 (RP zs):=
 QP rfl (bu (inl:=ca) (ann:=aR) au (G:=zs=zs) rfl (by kernel_rfl):aj _ _ _ _ (fun v _=>v=zs) (fun _ _=>False))
theorem Qq (k:Key) (hk:k.wf):
 ((decide (k.kind<0)||decide (10<k.kind))=true->
   {data:= {toList:= []}}=uW k/\
    false=gD k.kind/\
     false=uq k.kind/\
      false=oJ k.kind/\false=qB k.kind/\0=ei k.kind/\0=qj k.kind/\false=aS k)/\
   ((decide (k.kind<0)||decide (10<k.kind))=false->
     (0<=k.kind/\k.kind< ↑11)/\
      ak [lL 0,lL 1,lL 2,lL 3,lL 4,lL 5,lL 6,lL 7,lL 8,lL 9,lL 10] k.kind.toNat
          {data:= {toList:= []}}=
        uW k/\
       ak [false,false,true,true,true,true,true,true,false,false,false] k.kind.toNat false=
         gD k.kind/\
        ak [false,false,true,true,false,false,false,false,false,false,false] k.kind.toNat false=
          uq k.kind/\
         ak [false,false,false,false,false,false,false,true,false,false,false] k.kind.toNat false=
           oJ k.kind/\
          ak [false,true,false,false,false,false,true,false,false,false,false] k.kind.toNat false=
            qB k.kind/\
           ak [0,0,7,1,0,0,0,0,0,0,0] k.kind.toNat 0=ei k.kind/\
            ak [0,0,1,2,1,1,1,1,0,0,0] k.kind.toNat 0=qj k.kind/\
             (eZ
                (ak [false,false,true,true,true,true,true,true,false,false,false]
                 k.kind.toNat false)
                k.oid 63&&
                eZ
                 (ak [false,false,true,true,true,true,true,true,false,false,false]
                  k.kind.toNat false)
                 k.count 4294967295&&
                eZ
                 (ak [false,false,false,false,false,false,false,true,false,false,false]
                  k.kind.toNat false)
                 k.call 4294967295&&
                decide (0<=k.rights)&&
                decide
                 (aV BinOp.andNot IntKind.i64 k.rights
                   (ak [0,0,7,1,0,0,0,0,0,0,0] k.kind.toNat 0)=
                  0)&&
               (ak [false,true,false,false,false,false,true,false,false,false,false] k.kind.toNat
                 false||
                decide (k.value=0)))=
              aS k):=by
 obtain⟨kind,oid,count,call,rights,value⟩:=k;have hr:rights<=9223372036854775807:=hk.2.2.2.2.1.2;simp only;have he:(ByteArray.empty:ByteArray)= {data:= {toList:= []}}:=rfl;refine⟨fun h=>?_,fun h=>?_⟩
 ·simp only[Bool.or_eq_true,VH]at h;refine⟨?_,?_,?_,?_,?_,?_,?_,?_⟩<;>simp only[uW,OG,gD,uq,oJ,qB,ei,qj,aS]<;>grind
 ·simp only[Bool.or_eq_false_iff,decide_eq_false_iff_not]at h;have hb:∀m,(0<=rights->(decide (aV .andNot .i64 rights m=0))=decide (rights<=m))->(decide (0<=rights)&&decide (aV .andNot .i64 rights m=0))=(decide (0<=rights)&&decide (rights<=m)):=fun m hm=>KI hm
  have h7:=hb 7 fun h0=>by rw[decide_eq_decide];exact ML h0 hr
  have h1:=hb 1 fun h0=>by rw[decide_eq_decide];exact MA h0 hr
  have h0:=hb 0 fun h0=>by rw[decide_eq_decide];exact Ma h0 hr
  have hc:kind=0\/kind=1\/kind=2\/kind=3\/kind=4\/kind=5\/kind=6\/kind=7\/kind=8\/kind=9\/kind=10:=by omega
  rcases hc with rfl|rfl|rfl|rfl|rfl|rfl|rfl|rfl|rfl|rfl|rfl<;>
   refine⟨⟨by decide,by decide⟩,rfl,rfl,rfl,rfl,rfl,rfl,rfl,?_⟩<;>
   simp only[ak,aS,gD,qB,oJ,ei,Int.reduceToNat,List.getD_cons_zero,List.getD_cons_succ,Bool.and_assoc]<;>
   simp+decide [eZ]<;>grind
theorem wO:dC Tryz.prog 67 So:=
 zQ ir (fun _=>rfl) fun k hk=>bu (inl:=ca) (ann:=aR) (ab FR (ab IX au)) (Qq k hk) (by kernel_rfl)
theorem LW (k:Key) (hk:k.wf):
 ((!aS k)=true->2=bT k)/\((!aS k)=false->0=bT k):=by
 unfold bT;cases aS k<;>simp
theorem fh:dC Tryz.prog 69 Ts:=
 zQ ir (fun _=>rfl) fun k hk=>bu (inl:=ca) (ann:=aR) (ab wO au) (LW k hk) (by kernel_rfl)
theorem Fm (k:Key) (hk:k.wf):
 ((!aS k|| !gD k.kind)=true->0=bH k/\false=aP k)/\
   ((!aS k|| !gD k.kind)=false->k.oid=bH k/\true=aP k):=by
 unfold bH aP;cases aS k<;>cases gD k.kind<;>simp
theorem cF:dC Tryz.prog 46 Hg:=
 zQ ir (fun _=>rfl) fun k hk=>bu (inl:=ca) (ann:=aR) (ab wO au) (Fm k hk) (by kernel_rfl)
theorem Dd (k:Key) (o:Sx.Obj) (hk:k.wf):
 ((!aS k)=true->false=ck k o)/\
   ((!aS k)=false->
     ((!gD k.kind)=true->true=ck k o)/\
       ((!gD k.kind)=false->
         (decide (o.kind=qj k.kind)&&decide (o.count=k.count)&&
           (!oJ k.kind||decide (o.calls=k.call)))=
          ck k o)):=by
 cases hok:aS k
 ·simp[ck,hok]
 ·have h0:gD k.kind=true->0<=k.oid:=fun h=>by
   simp only[aS,eZ,h,if_true,VG,VH]at hok;omega
  simp only[ck,iK,cO,qj,oJ,hok,Bool.true_and];simp only[gD]at *;grind
theorem vT:dC Tryz.prog 47 JT:=
 wh ir B7 (fun _ _=>rfl) fun k o hk _=>bu (inl:=ca) (ann:=aR) (ab wO au) (Dd k o hk) (by kernel_rfl)
end Go.Proofs.YtlblcfaclmpekaaGreat
namespace Go.Sx
def kJ (kind n:Int) (k:Key):Bool:=aS k&&decide (cO k<n)&&(decide (kind=1)||decide (k=void))
def bq (o:Obj) (n:Int):Bool:=
 decide (1<=n)&&decide (n<=64)&&decide (0<=o.kind)&&decide (o.kind<=3)&&decide (0<=o.count)&&decide (o.count<=4294967295)&&decide (0<=o.calls)&&decide (o.calls<=4294967295)&&
 (decide (o.kind=1)||decide (o.calls=0))&&(List.range 16).all (fun i=>kJ o.kind n (o.slots.at i))&&
 (List.range 64).all (fun i=>decide (o.kind=1)||decide (o.kind=2)||decide (o.bytes.at i=0))
def de (o:Obj) (n:Int):Int:=if bq o n then 0 else 2
def jQ (o:Obj) (b:Bool):Bool:=decide (o.slots=gg)&&(b||decide (o.bytes=ey))&&decide (o.calls=0)
def nq (o:Obj) (n:Int) (i:Int):Bool:=(List.range i.toNat).all fun j=>aS (o.slots.at j)&&decide (cO (o.slots.at j)<n)
def zC (i:Int):Prop:=0<=i/\i<=16
def Rl:Ct:=Qs rO toBool fun o b=> .bo (jQ o b)
def P5:Ct:=Qs rO (rI .i64) fun o n=> .it .i64 (de o n)
theorem ep {o:Obj} {n:Int}:bq o n=true↔1<=n/\n<=64/\0<=o.kind/\o.kind<=3/\0<=o.count/\o.count<=4294967295/\0<=o.calls/\o.calls<=4294967295/\
  (o.kind=1\/o.calls=0)/\(∀i,i<16->kJ o.kind n (o.slots.at i)=true)/\∀i,i<64->(o.kind=1\/o.kind=2)\/o.bytes.at i=0:=by
 simp only[bq,VG,VH,Bool.or_eq_true,List.all_eq_true,List.mem_range,and_assoc]
theorem vb {o:Obj} {n:Int} (h:¬bq o n=true):2=de o n:=by simp[de,h]
theorem sm {o:Obj} {n:Int} (h:bq o n=true):0=de o n:=by simp[de,h]
theorem Ez {s:bU}:s=gg↔ ∀i,i<16->s.at i=void:=by
 constructor
 ·rintro rfl i _;exact wk i
 ·intro h;refine Vector.ext fun i hi=>?_
  have:=h i hi;unfold bU.at at this;simp only[gg,Vector.getElem_replicate];rw[<-this];simp[hi]
theorem D2 {s:Bytes}:s=ey↔ ∀i,i<64->s.at i=0:=by
 constructor
 ·rintro rfl i hi
  unfold Bytes.at ey;simp[hi]
 ·intro h;refine Vector.ext fun i hi=>?_
  have:=h i hi;unfold Bytes.at at this;simp only[ey,Vector.getElem_replicate];rw[<-this];simp[hi]
theorem ly:aS void=true/\cO void= -1:=by decide
theorem uF {kind n:Int} (hk:kind≠1) (hn:1<=n) (k:Key):kJ kind n k=true↔k=void:=by
 unfold kJ;simp only[VG,VH,Bool.or_eq_true];constructor
 ·rintro⟨_,h|h⟩
  ·exact absurd h hk
  ·exact h
 ·rintro rfl
  exact⟨⟨ly.1,by rw[ly.2];omega⟩,.inr rfl⟩
theorem Io {o:Obj} {b:Bool}:jQ o b=true↔(∀i,i<16->o.slots.at i=void)/\(b=true\/∀i,i<64->o.bytes.at i=0)/\o.calls=0:=by
 simp only[jQ,VG,VH,Bool.or_eq_true,Ez,D2,and_assoc]
theorem Cx {o:Obj} {n:Int} (h1:1<=n) (h2:n<=64) (h3:0<=o.count) (h4:o.count<=4294967295) (h5:0<=o.calls) (h6:o.calls<=4294967295) {b:Bool} (hk:0<=o.kind/\o.kind<=3/\o.kind≠1) (hb:b=decide (o.kind=2)):
  bq o n=jQ o b:=by
 rw[Bool.eq_iff_iff,ep,Io];subst hb;constructor
 ·rintro⟨_,_,_,_,_,_,_,_,h,hs,hz⟩
  refine⟨fun i hi=>(uF hk.2.2 h1 _).1 (hs i hi),?_,h.resolve_left hk.2.2⟩
  by_cases h2:o.kind=2
  ·exact .inl (by simp[h2])
  ·exact .inr fun i hi=>(hz i hi).resolve_left fun h=>h.elim hk.2.2 h2
 ·rintro⟨hs,hz,hc⟩
  refine⟨h1,h2,hk.1,hk.2.1,h3,h4,h5,h6,.inr hc,fun i hi=>(uF hk.2.2 h1 _).2 (hs i hi),fun i hi=>?_⟩
  rcases hz with h|h
  ·exact .inl (.inr (by simpa using h))
  ·exact .inr (h i hi)
theorem CE {o:Obj} {n:Int} (h1:1<=n) (h2:n<=64) (h3:0<=o.count) (h4:o.count<=4294967295) (h5:0<=o.calls) (h6:o.calls<=4294967295) (hk:o.kind=1):bq o n=nq o n 16:=by
 rw[Bool.eq_iff_iff,ep];simp only[nq,List.all_eq_true,List.mem_range,hk,kJ,VG,decide_true,Bool.true_or,and_true];constructor
 ·rintro⟨_,_,_,_,_,_,_,_,_,hs,_⟩
  exact fun i hi=>hs i hi
 ·intro hs;exact⟨h1,h2,by omega,by omega,h3,h4,h5,h6,.inl trivial,fun i hi=>hs i hi,fun i hi=> .inl (.inl trivial)⟩
theorem Kj {o:Obj} {n g:Int}:(nq o n g&&decide (bT (o.slots.at g.toNat)=0)&&(!aP (o.slots.at g.toNat)||decide (bH (o.slots.at g.toNat)<n)))=
  (nq o n g&&(aS (o.slots.at g.toNat)&&(!aP (o.slots.at g.toNat)||decide ((o.slots.at g.toNat).oid<n)))):=by
 unfold bT bH;cases aS (o.slots.at g.toNat)<;>cases aP (o.slots.at g.toNat)<;>simp
theorem Hm {o:Obj} {n g:Int} (h0:0<=g) (hn:1<=n):(nq o n g&&decide (bT (o.slots.at g.toNat)=0)&&(!aP (o.slots.at g.toNat)||decide (bH (o.slots.at g.toNat)<n)))=nq o n (g+1):=by
 rw[Kj];unfold nq;rw[show(g+1).toNat=g.toNat+1 by omega,List.range_succ,List.all_append]
 simp only[List.all_cons,List.all_nil,Bool.and_true];congr 1
 unfold cO aP;cases aS (o.slots.at g.toNat)
 ·rfl
 ·cases gD (o.slots.at g.toNat).kind
  ·simp;omega
  ·simp
end Go.Sx
namespace Go.Proofs.YtlblcfaclmpekaaGreat
open Go.Sx
set_option maxRecDepth 100000
theorem Mp (o:Sx.Obj) (b:Bool):
 (AE o.slots gg&&(b||BI o.bytes ey)&&decide (o.calls=0))=jQ o b:=by
 unfold jQ AE BI;rfl
theorem Oo:dC Tryz.prog 68 Rl:=
 wh B7 H5 (fun _ _=>rfl) fun o b _ _=>bu (inl:=ca) (ann:=aR) au (Mp o b) (by kernel_rfl)
theorem N4 (o:Sx.Obj) (n:Int):
 ((decide (n<1)||decide (64<n)||decide (o.count<0)||decide (4294967295<o.count)||
           decide (o.calls<0)||
    decide (4294967295<o.calls))=
    true->
   2=de o n)/\
   ((decide (n<1)||decide (64<n)||decide (o.count<0)||decide (4294967295<o.count)||
      decide (o.calls<0)||
      decide (4294967295<o.calls))=
     false->
     (decide (o.kind=0)=true->
       ((!jQ o false)=true->2=de o n)/\((!jQ o false)=false->0=de o n))/\
      (decide (o.kind=0)=false->
       (decide (o.kind=3)=true->
         ((!jQ o false)=true->2=de o n)/\((!jQ o false)=false->0=de o n))/\
        (decide (o.kind=3)=false->
         (decide (o.kind=2)=true->
           ((!jQ o true)=true->2=de o n)/\((!jQ o true)=false->0=de o n))/\
          (decide (o.kind=2)=false->
           (decide (o.kind=1)=true->
             (∃g,zC g/\n=n/\true=nq o n g/\o.slots=o.slots/\0=g/\o=o)/\
              ∀(g:Int),
               zC g->
                (decide (g<16)=true->
                  (0<=g/\g< ↑16)/\
                   aM IntKind.i64 (g+1)/\
                    ∃g',
                     zC g'/\
                      (16-g').toNat<(16-g).toNat/\
                       n=n/\
                        (nq o n g&&decide (bT (o.slots.at g.toNat)=0)&&
                           (!aP (o.slots.at g.toNat)||
                            decide (bH (o.slots.at g.toNat)<n)))=
                          nq o n g'/\
                         o.slots=o.slots/\g+1=g'/\o=o)/\
                 (decide (g<16)=false->
                  ((!nq o n g)=true->2=de o n)/\((!nq o n g)=false->0=de o n)))/\
            (decide (o.kind=1)=false->2=de o n))))):=by
 refine⟨fun h=>vb fun hh=>?_,fun h=>?_⟩
 ·have:=ep.1 hh;simp only[Bool.or_eq_true,VH]at h;omega
 ·simp only[Bool.or_eq_false_iff,decide_eq_false_iff_not]at h
  have hb:∀(b:Bool),(0<=o.kind/\o.kind<=3/\o.kind≠1)->b=decide (o.kind=2)->((!jQ o b)=true->2=de o n)/\((!jQ o b)=false->0=de o n):=fun b h1 h2=>by
   have he:=Cx (o:=o) (n:=n) (b:=b) (by omega) (by omega) (by omega) (by omega) (by omega) (by omega) h1 h2
   exact⟨fun hn=>vb (by rw[he];simpa using hn),fun hy=>sm (by rw[he];simpa using hy)⟩
  refine⟨fun h0=>?_,fun h0=>⟨fun h3=>?_,fun h3=>⟨fun h2=>?_,fun h2=>⟨fun h1=>⟨⟨0,⟨by omega,by omega⟩,rfl,rfl,rfl,rfl,rfl⟩,fun g hg=>⟨fun hlt=>?_,fun hge=>?_⟩⟩,fun h1=>vb fun hh=>?_⟩⟩⟩⟩
  ·have h0:=VK h0;exact hb false (by omega) (by simp[h0])
  ·have h3:=VK h3;exact hb false (by omega) (by simp[h3])
  ·have h2:=VK h2;exact hb true (by omega) (by simp[h2])
  ·obtain⟨g0,g1⟩:=hg;have hlt:=VK hlt;refine⟨⟨g0,by omega⟩,by simp only[aM,cj];omega,g+1,⟨by omega,by omega⟩,by omega,rfl,Hm g0 (by omega),rfl,rfl,rfl⟩
  ·obtain⟨g0,g1⟩:=hg;have hge:¬g<16:=VJ hge;have h1:=VK h1;have e:g=16:=by omega
   subst e;have he:=CE (o:=o) (n:=n) (by omega) (by omega) (by omega) (by omega) (by omega) (by omega) h1
   exact⟨fun hn=>vb (by rw[he];simpa using hn),fun hy=>sm (by rw[he];simpa using hy)⟩
  ·have:=ep.1 hh;have h0:¬o.kind=0:=VJ h0;have h1:¬o.kind=1:=VJ h1;have h2:¬o.kind=2:=VJ h2;have h3:¬o.kind=3:=VJ h3;omega
theorem zT:dC Tryz.prog 48 P5:=
 wh B7 (gR .i64) (fun _ _=>rfl) fun o n _ _=>bu (inl:=ca) (ann:=(kV [(48,12,T5 [1,2,51] (fun g=> [(52,.it .i64 g),(5,.bo (nq o n g))]) zC 16)])) (ab Oo (ab fh (ab cF au))) (N4 o n) (by kernel_rfl)
end Go.Proofs.YtlblcfaclmpekaaGreat
