import Derived.Test.YtmfbohanboiklaaGreatSxF
set_option linter.unusedSimpArgs false
set_option linter.unusedVariables false
namespace Go.Sx
def cj (h:Bool) (n m:Int):Bool:=if h then decide (0<=n)&&decide (n<=m)else decide (n=0)
def dP (n:Int):Bool:=decide (2<=n)&&decide (n<=7)
def xK (n:Int):Bool:=decide (n=2)||decide (n=3)
def gL (n:Int):Bool:=decide (n=7)
def k8 (n:Int):Bool:=decide (n=1)||decide (n=6)
def fA (n:Int):Int:=if n=2 then 7 else if n=3 then 1 else 0
def aC (k:Key):Bool:=
 decide (0<=k.kind)&&decide (k.kind<=10)&&decide (0<=k.rights)&&decide (k.rights<=fA k.kind)&&(k8 k.kind||decide (k.value=0))&&
 cj (dP k.kind) k.oid 63&&cj (dP k.kind) k.count 4294967295&&cj (gL k.kind) k.call 4294967295
def c9 (k:Key):Int:=if aC k then 0 else 2
def jf (k:Key):Int:=if aC k&&dP k.kind then k.oid else -1
def xu (k:Key):Int:=if jf k<0 then 0 else if k.kind=3 then 2 else 1
def bW (k:Key) (o:Obj):Bool:=
 aC k&&(decide (jf k<0)||(decide (o.kind=xu k)&&decide (o.count=k.count)&&(!decide (k.kind=7)||decide (o.calls=k.call))))
def EK (k:Key):Bool:=decide (0<=k.kind)&&decide (k.kind<=10)
def gh (n:Nat):ByteArray:=
 match n with
 |0=> "void".toUTF8
 |1=> "number".toUTF8
 |2=> "node".toUTF8
 |3=> "page".toUTF8
 |4=> "bank".toUTF8
 |5=> "proc".toUTF8
 |6=> "start".toUTF8
 |7=> "resume".toUTF8
 |8=> "discrim".toUTF8
 |9=> "clock".toUTF8
 |10=> "check".toUTF8
 |_=>ByteArray.empty
def kd (s:ByteArray) (a b c d:Bool) (m w:Int):V:= .ag [.st s,.cb a,.cb b,.cb c,.cb d,.ci .i64 m,.ci .i64 w]
def tK:V:= .ag [kd (gh 0) false false false false 0 0,kd (gh 1) false false false true 0 0,kd (gh 2) true true false false 7 1,kd (gh 3) true true false false 1 2,
 kd (gh 4) true false false false 0 1,kd (gh 5) true false false false 0 1,kd (gh 6) true false false true 0 1,kd (gh 7) true false true false 0 1,
 kd (gh 8) false false false false 0 0,kd (gh 9) false false false false 0 0,kd (gh 10) false false false false 0 0]
def pc (k:Key):ByteArray:=if EK k then gh k.kind.toNat else ByteArray.empty
def kJ (n:Int):Int:=if n=3 then 2 else if 2<=n/\n<=7 then 1 else 0
def BX:Ct:=Jb toBool (rI .i64) (rI .i64) fun h n m=> .bo (cj h n m)
def Hj:Ct:=GJ rK fun k=> .tp [.ag [.st (pc k),.bo (dP k.kind),.bo (xK k.kind),.bo (gL k.kind),.bo (k8 k.kind),.it .i64 (fA k.kind),.it .i64 (kJ k.kind)],.bo (aC k)]
def HJ:Ct:=GJ rK fun k=> .it .i64 (c9 k)
def bn (k:Key):Bool:=aC k&&dP k.kind
def dv (k:Key):Int:=if bn k then k.oid else 0
def Au:Ct:=GJ rK fun k=> .tp [.it .i64 (dv k),.bo (bn k)]
def zU:Ct:=GZ rK rO fun k o=> .bo (bW k o)
theorem wrap_i64 {n:Int} (h:br .i64 n):IntKind.wrap .i64 n=n:=by
 have:=h;simp only[br]at this;unfold IntKind.wrap;simp[IntKind.bits,IntKind.signed];omega
theorem lz {r:Int} (j:Nat) (hj:j<63) (h0:0<=r) (h1:r<=9223372036854775807):cq .andNot .i64 r ((2^j-1:Nat):Int)=0↔r<2^j:=by
 obtain⟨n,rfl⟩:=Int.eq_ofNat_of_zero_le h0;have hn:n<2^64:=by omega
 have hbit:∀i,(BitVec.ofInt 64 (n:Int)).getLsbD i=n.testBit i:=by
  intro i;rw[BitVec.ofInt_natCast,BitVec.getLsbD_ofNat];by_cases hi:i<64
  ·simp[hi]
  ·rw[Nat.testBit_lt_two_pow (Nat.lt_of_lt_of_le hn (Nat.pow_le_pow_right (by omega) (by omega)))];simp
 have hx:(BitVec.ofInt 64 (n:Int) &&& ~~~BitVec.ofInt 64 ((2^j-1:Nat):Int)).toNat=0↔n<2^j:=by
  constructor
  ·intro h;refine Nat.lt_pow_two_of_testBit _ fun i hi=>?_
   rcases Nat.lt_or_ge i 64 with h64|h64
   ·have h2:(BitVec.ofInt 64 (n:Int) &&& ~~~BitVec.ofInt 64 ((2^j-1:Nat):Int)).getLsbD i=false:=by
     rw[BitVec.getLsbD,h];simp
    rw[BitVec.getLsbD_and,hbit,BitVec.getLsbD_not,BitVec.ofInt_natCast,BitVec.getLsbD_ofNat,Nat.testBit_two_pow_sub_one]at h2;simp only[h64,decide_true,Bool.true_and,show¬i<j by omega,decide_false,Bool.not_false,Bool.and_true]at h2
    exact h2
   ·exact Nat.testBit_lt_two_pow (Nat.lt_of_lt_of_le hn (Nat.pow_le_pow_right (by omega) h64))
  ·intro h
   have:BitVec.ofInt 64 (n:Int) &&& ~~~BitVec.ofInt 64 ((2^j-1:Nat):Int)=0#64:=by
    refine BitVec.eq_of_getLsbD_eq fun i hi=>?_
    rw[BitVec.getLsbD_and,hbit,BitVec.getLsbD_not,BitVec.ofInt_natCast,BitVec.getLsbD_ofNat,Nat.testBit_two_pow_sub_one];by_cases hij:i<j
    ·simp[hij,hi]
    ·rw[Nat.testBit_lt_two_pow (Nat.lt_of_lt_of_le h (Nat.pow_le_pow_right (by omega) (by omega)))];simp
   rw[this];rfl
 have hle:(BitVec.ofInt 64 (n:Int) &&& ~~~BitVec.ofInt 64 ((2^j-1:Nat):Int)).toNat<=n:=by
  rw[BitVec.toNat_and];refine Nat.le_trans Nat.and_le_left ?_;rw[BitVec.ofInt_natCast,BitVec.toNat_ofNat];exact Nat.mod_le _ _
 have hp:((2^j:Nat):Int)=(2:Int)^j:=by simp
 change IntKind.wrap .i64 (((BitVec.ofInt 64 (n:Int) &&& ~~~BitVec.ofInt 64 ((2^j-1:Nat):Int)).toNat:Nat):Int)=0↔_
 generalize (BitVec.ofInt 64 (n:Int) &&& ~~~BitVec.ofInt 64 ((2^j-1:Nat):Int)).toNat=x at *
 rw[wrap_i64 (by simp only[br];omega),<-hp]
 omega
theorem Dm {r:Int} (h0:0<=r) (h1:r<=9223372036854775807):cq .andNot .i64 r 7=0↔r<=7:=by
 have:=lz 3 (by omega) h0 h1
 rw[show((2^3-1:Nat):Int)=7 from rfl,show(2:Int)^3=8 from rfl]at this;rw[this];omega
theorem DM {r:Int} (h0:0<=r) (h1:r<=9223372036854775807):cq .andNot .i64 r 1=0↔r<=1:=by
 have:=lz 1 (by omega) h0 h1
 rw[show((2^1-1:Nat):Int)=1 from rfl,show(2:Int)^1=2 from rfl]at this;rw[this];omega
theorem DO {r:Int} (h0:0<=r) (h1:r<=9223372036854775807):cq .andNot .i64 r 0=0↔r<=0:=by
 have:=lz 0 (by omega) h0 h1
 rw[show((2^0-1:Nat):Int)=0 from rfl,show(2:Int)^0=1 from rfl]at this;rw[this];omega
theorem AW {r m:Int} {b:Bool} (h:0<=r->(b=decide (r<=m))):(decide (0<=r)&&b)=(decide (0<=r)&&decide (r<=m)):=by
 by_cases h0:0<=r
 ·rw[h h0]
 ·simp[h0]
end Go.Sx
namespace Go.Proofs.YtmfbohanboiklaaGreat
open Go.Sx
set_option maxRecDepth 100000
theorem zd (h:Bool) (n m:Int):
 (h&&decide (0<=n)&&decide (n<=m)|| !h&&decide (n=0))=cj h n m:=by
 unfold cj;cases h<;>simp
theorem yR:cQ Tryz.prog 79 BX:=
 F7 BV (gR .i64) (gR .i64) (fun _ _ _=>rfl) fun h n m _ _ _=>bx (inl:=cg) (ann:=cm) aS (zd h n m) (by kernel_rfl)
theorem Av:cQ Tryz.prog 78 (Gs tK):=
 Fx rfl (bx (inl:=cg) (ann:=cm) aS (G:=tK=tK) rfl (by kernel_rfl):ah _ _ _ _ (fun v _=>v=tK) (fun _ _=>False))
theorem F4 (k:Key) (hk:k.wf):
 ((decide (k.kind<0)||decide (10<k.kind))=true->
   {data:= {toList:= []}}=pc k/\
    false=dP k.kind/\
     false=xK k.kind/\
      false=gL k.kind/\false=k8 k.kind/\0=fA k.kind/\0=kJ k.kind/\false=aC k)/\
   ((decide (k.kind<0)||decide (10<k.kind))=false->
     (0<=k.kind/\k.kind< ↑11)/\
      aB [gh 0,gh 1,gh 2,gh 3,gh 4,gh 5,gh 6,gh 7,gh 8,gh 9,gh 10] k.kind.toNat
          {data:= {toList:= []}}=
        pc k/\
       aB [false,false,true,true,true,true,true,true,false,false,false] k.kind.toNat false=
         dP k.kind/\
        aB [false,false,true,true,false,false,false,false,false,false,false] k.kind.toNat false=
          xK k.kind/\
         aB [false,false,false,false,false,false,false,true,false,false,false] k.kind.toNat false=
           gL k.kind/\
          aB [false,true,false,false,false,false,true,false,false,false,false] k.kind.toNat false=
            k8 k.kind/\
           aB [0,0,7,1,0,0,0,0,0,0,0] k.kind.toNat 0=fA k.kind/\
            aB [0,0,1,2,1,1,1,1,0,0,0] k.kind.toNat 0=kJ k.kind/\
             (cj
                (aB [false,false,true,true,true,true,true,true,false,false,false]
                 k.kind.toNat false)
                k.oid 63&&
                cj
                 (aB [false,false,true,true,true,true,true,true,false,false,false]
                  k.kind.toNat false)
                 k.count 4294967295&&
                cj
                 (aB [false,false,false,false,false,false,false,true,false,false,false]
                  k.kind.toNat false)
                 k.call 4294967295&&
                decide (0<=k.rights)&&
                decide
                 (cq BinOp.andNot IntKind.i64 k.rights
                   (aB [0,0,7,1,0,0,0,0,0,0,0] k.kind.toNat 0)=
                  0)&&
               (aB [false,true,false,false,false,false,true,false,false,false,false] k.kind.toNat
                 false||
                decide (k.value=0)))=
              aC k):=by
 obtain⟨kind,oid,count,call,rights,value⟩:=k;have hr:rights<=9223372036854775807:=hk.2.2.2.2.1.2;simp only;have he:(ByteArray.empty:ByteArray)= {data:= {toList:= []}}:=rfl;refine⟨fun h=>?_,fun h=>?_⟩
 ·simp only[Bool.or_eq_true,JS]at h;refine⟨?_,?_,?_,?_,?_,?_,?_,?_⟩<;>simp only[pc,EK,dP,xK,gL,k8,fA,kJ,aC]<;>grind
 ·simp only[Bool.or_eq_false_iff,decide_eq_false_iff_not]at h;have hb:∀m,(0<=rights->(decide (cq .andNot .i64 rights m=0))=decide (rights<=m))->(decide (0<=rights)&&decide (cq .andNot .i64 rights m=0))=(decide (0<=rights)&&decide (rights<=m)):=fun m hm=>AW hm
  have h7:=hb 7 fun h0=>by rw[decide_eq_decide];exact Dm h0 hr
  have h1:=hb 1 fun h0=>by rw[decide_eq_decide];exact DM h0 hr
  have h0:=hb 0 fun h0=>by rw[decide_eq_decide];exact DO h0 hr
  have hc:kind=0\/kind=1\/kind=2\/kind=3\/kind=4\/kind=5\/kind=6\/kind=7\/kind=8\/kind=9\/kind=10:=by omega
  rcases hc with rfl|rfl|rfl|rfl|rfl|rfl|rfl|rfl|rfl|rfl|rfl<;>
   refine⟨⟨by decide,by decide⟩,rfl,rfl,rfl,rfl,rfl,rfl,rfl,?_⟩<;>
   simp only[aB,aC,dP,k8,gL,fA,Int.reduceToNat,List.getD_cons_zero,List.getD_cons_succ,Bool.and_assoc]<;>
   simp+decide [cj]<;>grind
theorem wj:cQ Tryz.prog 58 Hj:=
 sY ou (fun _=>rfl) fun k hk=>bx (inl:=cg) (ann:=cm) (az yR (az Av aS)) (F4 k hk) (by kernel_rfl)
theorem DS (k:Key) (hk:k.wf):
 ((!aC k)=true->2=c9 k)/\((!aC k)=false->0=c9 k):=by
 unfold c9;cases aC k<;>simp
theorem oU:cQ Tryz.prog 46 HJ:=
 sY ou (fun _=>rfl) fun k hk=>bx (inl:=cg) (ann:=cm) (az wj aS) (DS k hk) (by kernel_rfl)
theorem yM (k:Key) (hk:k.wf):
 ((!aC k|| !dP k.kind)=true->0=dv k/\false=bn k)/\
   ((!aC k|| !dP k.kind)=false->k.oid=dv k/\true=bn k):=by
 unfold dv bn;cases aC k<;>cases dP k.kind<;>simp
theorem ir:cQ Tryz.prog 32 Au:=
 sY ou (fun _=>rfl) fun k hk=>bx (inl:=cg) (ann:=cm) (az wj aS) (yM k hk) (by kernel_rfl)
theorem wY (k:Key) (o:Sx.Obj) (hk:k.wf):
 ((!aC k)=true->false=bW k o)/\
   ((!aC k)=false->
     ((!dP k.kind)=true->true=bW k o)/\
       ((!dP k.kind)=false->
         (decide (o.kind=kJ k.kind)&&decide (o.count=k.count)&&
           (!gL k.kind||decide (o.calls=k.call)))=
          bW k o)):=by
 cases hok:aC k
 ·simp[bW,hok]
 ·have h0:dP k.kind=true->0<=k.oid:=fun h=>by
   simp only[aC,cj,h,if_true,JR,JS]at hok;omega
  simp only[bW,xu,jf,kJ,gL,hok,Bool.true_and];simp only[dP]at *;grind
theorem qS:cQ Tryz.prog 70 zU:=
 vX ou xa (fun _ _=>rfl) fun k o hk _=>bx (inl:=cg) (ann:=cm) (az wj aS) (wY k o hk) (by kernel_rfl)
end Go.Proofs.YtmfbohanboiklaaGreat
namespace Go.Sx
def jE (kind n:Int) (k:Key):Bool:=aC k&&decide (jf k<n)&&(decide (kind=1)||decide (k=void))
def dK (o:Obj) (n:Int):Bool:=
 decide (1<=n)&&decide (n<=64)&&decide (0<=o.kind)&&decide (o.kind<=3)&&decide (0<=o.count)&&decide (o.count<=4294967295)&&decide (0<=o.calls)&&decide (o.calls<=4294967295)&&
 (decide (o.kind=1)||decide (o.calls=0))&&(List.range 16).all (fun i=>jE o.kind n (o.slots.at i))&&
 (List.range 64).all (fun i=>decide (o.kind=1)||decide (o.kind=2)||decide (o.bytes.at i=0))
def bc (o:Obj) (n:Int):Int:=if dK o n then 0 else 2
def eL (o:Obj) (b:Bool):Bool:=decide (o.slots=gM)&&(b||decide (o.bytes=iU))&&decide (o.calls=0)
def iz (o:Obj) (n:Int) (i:Int):Bool:=(List.range i.toNat).all fun j=>aC (o.slots.at j)&&decide (jf (o.slots.at j)<n)
def tJ (i:Int):Prop:=0<=i/\i<=16
def FT:Ct:=GZ rO toBool fun o b=> .bo (eL o b)
def F5:Ct:=GZ rO (rI .i64) fun o n=> .it .i64 (bc o n)
theorem kE {o:Obj} {n:Int}:dK o n=true↔1<=n/\n<=64/\0<=o.kind/\o.kind<=3/\0<=o.count/\o.count<=4294967295/\0<=o.calls/\o.calls<=4294967295/\
  (o.kind=1\/o.calls=0)/\(∀i,i<16->jE o.kind n (o.slots.at i)=true)/\∀i,i<64->(o.kind=1\/o.kind=2)\/o.bytes.at i=0:=by
 simp only[dK,JR,JS,Bool.or_eq_true,List.all_eq_true,List.mem_range,and_assoc]
theorem oX {o:Obj} {n:Int} (h:¬dK o n=true):2=bc o n:=by simp[bc,h]
theorem va {o:Obj} {n:Int} (h:dK o n=true):0=bc o n:=by simp[bc,h]
theorem CN {s:bS}:s=gM↔ ∀i,i<16->s.at i=void:=by
 constructor
 ·rintro rfl i _;exact qv i
 ·intro h;refine Vector.ext fun i hi=>?_
  have:=h i hi;unfold bS.at at this;simp only[gM,Vector.getElem_replicate];rw[<-this];simp[hi]
theorem Dl {s:Bytes}:s=iU↔ ∀i,i<64->s.at i=0:=by
 constructor
 ·rintro rfl i hi
  unfold Bytes.at iU;simp[hi]
 ·intro h;refine Vector.ext fun i hi=>?_
  have:=h i hi;unfold Bytes.at at this;simp only[iU,Vector.getElem_replicate];rw[<-this];simp[hi]
theorem w7:aC void=true/\jf void= -1:=by decide
theorem n4 {kind n:Int} (hk:kind≠1) (hn:1<=n) (k:Key):jE kind n k=true↔k=void:=by
 unfold jE;simp only[JR,JS,Bool.or_eq_true];constructor
 ·rintro⟨_,h|h⟩
  ·exact absurd h hk
  ·exact h
 ·rintro rfl
  exact⟨⟨w7.1,by rw[w7.2];omega⟩,.inr rfl⟩
theorem Ak {o:Obj} {b:Bool}:eL o b=true↔(∀i,i<16->o.slots.at i=void)/\(b=true\/∀i,i<64->o.bytes.at i=0)/\o.calls=0:=by
 simp only[eL,JR,JS,Bool.or_eq_true,CN,Dl,and_assoc]
theorem vV {o:Obj} {n:Int} (h1:1<=n) (h2:n<=64) (h3:0<=o.count) (h4:o.count<=4294967295) (h5:0<=o.calls) (h6:o.calls<=4294967295) {b:Bool} (hk:0<=o.kind/\o.kind<=3/\o.kind≠1) (hb:b=decide (o.kind=2)):
  dK o n=eL o b:=by
 rw[Bool.eq_iff_iff,kE,Ak];subst hb;constructor
 ·rintro⟨_,_,_,_,_,_,_,_,h,hs,hz⟩
  refine⟨fun i hi=>(n4 hk.2.2 h1 _).1 (hs i hi),?_,h.resolve_left hk.2.2⟩
  by_cases h2:o.kind=2
  ·exact .inl (by simp[h2])
  ·exact .inr fun i hi=>(hz i hi).resolve_left fun h=>h.elim hk.2.2 h2
 ·rintro⟨hs,hz,hc⟩
  refine⟨h1,h2,hk.1,hk.2.1,h3,h4,h5,h6,.inr hc,fun i hi=>(n4 hk.2.2 h1 _).2 (hs i hi),fun i hi=>?_⟩
  rcases hz with h|h
  ·exact .inl (.inr (by simpa using h))
  ·exact .inr (h i hi)
theorem we {o:Obj} {n:Int} (h1:1<=n) (h2:n<=64) (h3:0<=o.count) (h4:o.count<=4294967295) (h5:0<=o.calls) (h6:o.calls<=4294967295) (hk:o.kind=1):dK o n=iz o n 16:=by
 rw[Bool.eq_iff_iff,kE];simp only[iz,List.all_eq_true,List.mem_range,hk,jE,JR,decide_true,Bool.true_or,and_true];constructor
 ·rintro⟨_,_,_,_,_,_,_,_,_,hs,_⟩
  exact fun i hi=>hs i hi
 ·intro hs;exact⟨h1,h2,by omega,by omega,h3,h4,h5,h6,.inl trivial,fun i hi=>hs i hi,fun i hi=> .inl (.inl trivial)⟩
theorem Bv {o:Obj} {n g:Int}:(iz o n g&&decide (c9 (o.slots.at g.toNat)=0)&&(!bn (o.slots.at g.toNat)||decide (dv (o.slots.at g.toNat)<n)))=
  (iz o n g&&(aC (o.slots.at g.toNat)&&(!bn (o.slots.at g.toNat)||decide ((o.slots.at g.toNat).oid<n)))):=by
 unfold c9 dv;cases aC (o.slots.at g.toNat)<;>cases bn (o.slots.at g.toNat)<;>simp
theorem Bs {o:Obj} {n g:Int} (h0:0<=g) (hn:1<=n):(iz o n g&&decide (c9 (o.slots.at g.toNat)=0)&&(!bn (o.slots.at g.toNat)||decide (dv (o.slots.at g.toNat)<n)))=iz o n (g+1):=by
 rw[Bv];unfold iz;rw[show(g+1).toNat=g.toNat+1 by omega,List.range_succ,List.all_append]
 simp only[List.all_cons,List.all_nil,Bool.and_true];congr 1
 unfold jf bn;cases aC (o.slots.at g.toNat)
 ·rfl
 ·cases dP (o.slots.at g.toNat).kind
  ·simp;omega
  ·simp
end Go.Sx
namespace Go.Proofs.YtmfbohanboiklaaGreat
open Go.Sx
set_option maxRecDepth 100000
theorem CY (o:Sx.Obj) (b:Bool):
 (uv o.slots gM&&(b||vC o.bytes iU)&&decide (o.calls=0))=eL o b:=by
 unfold eL uv vC;rfl
theorem Ek:cQ Tryz.prog 95 FT:=
 vX xa BV (fun _ _=>rfl) fun o b _ _=>bx (inl:=cg) (ann:=cm) aS (CY o b) (by kernel_rfl)
theorem C0 (o:Sx.Obj) (n:Int):
 ((decide (n<1)||decide (64<n)||decide (o.count<0)||decide (4294967295<o.count)||
           decide (o.calls<0)||
    decide (4294967295<o.calls))=
    true->
   2=bc o n)/\
   ((decide (n<1)||decide (64<n)||decide (o.count<0)||decide (4294967295<o.count)||
      decide (o.calls<0)||
      decide (4294967295<o.calls))=
     false->
     (decide (o.kind=0)=true->
       ((!eL o false)=true->2=bc o n)/\((!eL o false)=false->0=bc o n))/\
      (decide (o.kind=0)=false->
       (decide (o.kind=3)=true->
         ((!eL o false)=true->2=bc o n)/\((!eL o false)=false->0=bc o n))/\
        (decide (o.kind=3)=false->
         (decide (o.kind=2)=true->
           ((!eL o true)=true->2=bc o n)/\((!eL o true)=false->0=bc o n))/\
          (decide (o.kind=2)=false->
           (decide (o.kind=1)=true->
             (∃g,tJ g/\n=n/\true=iz o n g/\o.slots=o.slots/\0=g/\o=o)/\
              ∀(g:Int),
               tJ g->
                (decide (g<16)=true->
                  (0<=g/\g< ↑16)/\
                   fy IntKind.i64 (g+1)/\
                    ∃g',
                     tJ g'/\
                      (16-g').toNat<(16-g).toNat/\
                       n=n/\
                        (iz o n g&&decide (c9 (o.slots.at g.toNat)=0)&&
                           (!bn (o.slots.at g.toNat)||
                            decide (dv (o.slots.at g.toNat)<n)))=
                          iz o n g'/\
                         o.slots=o.slots/\g+1=g'/\o=o)/\
                 (decide (g<16)=false->
                  ((!iz o n g)=true->2=bc o n)/\((!iz o n g)=false->0=bc o n)))/\
            (decide (o.kind=1)=false->2=bc o n))))):=by
 refine⟨fun h=>oX fun hh=>?_,fun h=>?_⟩
 ·have:=kE.1 hh;simp only[Bool.or_eq_true,JS]at h;omega
 ·simp only[Bool.or_eq_false_iff,decide_eq_false_iff_not]at h
  have hb:∀(b:Bool),(0<=o.kind/\o.kind<=3/\o.kind≠1)->b=decide (o.kind=2)->((!eL o b)=true->2=bc o n)/\((!eL o b)=false->0=bc o n):=fun b h1 h2=>by
   have he:=vV (o:=o) (n:=n) (b:=b) (by omega) (by omega) (by omega) (by omega) (by omega) (by omega) h1 h2
   exact⟨fun hn=>oX (by rw[he];simpa using hn),fun hy=>va (by rw[he];simpa using hy)⟩
  refine⟨fun h0=>?_,fun h0=>⟨fun h3=>?_,fun h3=>⟨fun h2=>?_,fun h2=>⟨fun h1=>⟨⟨0,⟨by omega,by omega⟩,rfl,rfl,rfl,rfl,rfl⟩,fun g hg=>⟨fun hlt=>?_,fun hge=>?_⟩⟩,fun h1=>oX fun hh=>?_⟩⟩⟩⟩
  ·have h0:=JV h0;exact hb false (by omega) (by simp[h0])
  ·have h3:=JV h3;exact hb false (by omega) (by simp[h3])
  ·have h2:=JV h2;exact hb true (by omega) (by simp[h2])
  ·obtain⟨g0,g1⟩:=hg;have hlt:=JV hlt;refine⟨⟨g0,by omega⟩,by simp only[fy,br];omega,g+1,⟨by omega,by omega⟩,by omega,rfl,Bs g0 (by omega),rfl,rfl,rfl⟩
  ·obtain⟨g0,g1⟩:=hg;have hge:¬g<16:=JU hge;have h1:=JV h1;have e:g=16:=by omega
   subst e;have he:=we (o:=o) (n:=n) (by omega) (by omega) (by omega) (by omega) (by omega) (by omega) h1
   exact⟨fun hn=>oX (by rw[he];simpa using hn),fun hy=>va (by rw[he];simpa using hy)⟩
  ·have:=kE.1 hh;have h0:¬o.kind=0:=JU h0;have h1:¬o.kind=1:=JU h1;have h2:¬o.kind=2:=JU h2;have h3:¬o.kind=3:=JU h3;omega
theorem sS:cQ Tryz.prog 68 F5:=
 vX xa (gR .i64) (fun _ _=>rfl) fun o n _ _=>bx (inl:=cg) (ann:=(y0 [(68,12,JC [1,2,51] (fun g=> [(52,.it .i64 g),(5,.bo (iz o n g))]) tJ 16)])) (az Ek (az oU (az ir aS))) (C0 o n) (by kernel_rfl)
end Go.Proofs.YtmfbohanboiklaaGreat
