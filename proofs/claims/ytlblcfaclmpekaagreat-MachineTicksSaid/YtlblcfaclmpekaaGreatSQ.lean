import Derived.Test.YtlblcfaclmpekaaGreatKS
import Derived.Test.YtlblcfaclmpekaaGreatSpP
set_option linter.unusedSimpArgs false
set_option linter.unusedVariables false
namespace Go.Sx
def vo (o:Obj):Bool:=decide (o.kind=1)&&decide ((o.slots.at 2).kind=1)&&decide (0<=(o.slots.at 2).value)&&decide ((o.slots.at 2).value<=2)
def cR (L:List Obj) (i:Int):Bool:=vo (az L i)
def gn (L:List Obj) (i:Int):Int:=if cR L i=true then((az L i).slots.at 2).value else 0
def bP (L:List Obj) (i:Int):Int:=if cR L i=true then((az L i).slots.at 2).value else -1
def iQ:lQ (Int×Unit):=bD iA kc
theorem Rq:ia iQ:=aK fE dP
def RQ:Ct:=BW (bD sA iQ) (fun _=>none) fun x=> .tp [.it .i64 (gn (zY x.1) x.2.1),.bo (cR (zY x.1) x.2.1)]
theorem Qf {L:List Obj} {i:Int} (h:i<0\/(L.length:Int)<=i):az L i=free:=by
 unfold az;rw[UZ fun e=>by have:=mN.1 e;omega]
theorem wo (o:Obj):vo o=true↔o.kind=1/\(o.slots.at 2).kind=1/\0<=(o.slots.at 2).value/\(o.slots.at 2).value<=2:=by
 unfold vo;simp only[US,UT,and_assoc]
theorem ve {L:List Obj} {i:Int} (h:cR L i=false):bP L i= -1/\gn L i=0:=by
 unfold bP gn;rw[h];exact⟨rfl,rfl⟩
theorem kS {L:List Obj} {i:Int} (h:cR L i=true):bP L i=((az L i).slots.at 2).value/\gn L i=((az L i).slots.at 2).value:=by
 unfold bP gn;rw[h];exact⟨rfl,rfl⟩
theorem zQ (o:Obj):(!decide (o.kind=1)|| !decide ((o.slots.at 2).kind=1)||decide ((o.slots.at 2).value<0)||decide (2<(o.slots.at 2).value))= !vo o:=by
 have h:=wo o;cases hp:vo o with
 |true=>
  obtain⟨a,b,c,d⟩:=h.1 hp;have c':¬(o.slots.at 2).value<0:=by omega
  have d':¬2<(o.slots.at 2).value:=by omega
  simp[a,b,c',d']
 |false=>
  rw[Bool.not_false,Bool.or_eq_true,Bool.or_eq_true,Bool.or_eq_true,Bool.not_eq_true',Bool.not_eq_true',decide_eq_false_iff_not,decide_eq_false_iff_not,UT,UT];rw[hp]at h;have hn:¬(o.kind=1/\(o.slots.at 2).kind=1/\0<=(o.slots.at 2).value/\(o.slots.at 2).value<=2):=fun hh=>by have:=h.2 hh;simp at this
  omega
def eo (L:List Obj) (i st:Int):Int:=if ar L=0 then 1 else if¬(az L i).kind=1 then 230 else if st<0\/2<st then 2 else 0
def Bt (o:Obj) (st:Int):Obj:= {o with slots:=o.slots.put 2 (cP st)}
def hU (L:List Obj) (i st:Int):List Obj:=if eo L i st=0 then cS L i.toNat (Bt (az L i) st)else L
def Tj:lQ (Int×Int×Unit):=bD iA (bD iA kc)
theorem QL:ia Tj:=aK fE (aK fE dP)
def Sq:nf:=Ft (KC Tj) (fun L _=>an L) (fun L x=> .it .i64 (eo L x.1 x.2.1)) fun L x=>hU L x.1 x.2.1
end Go.Sx
namespace Go.Sx
structure bd where
 code:Int
 data:ByteArray
 k0:Key
 k1:Key
 k2:Key
def qv (m:bd):V:= .ag [.it .i64 m.code,.st m.data,.ag [.key m.k0,.key m.k1,.key m.k2]]
def dV:bd:=⟨0,⟨#[]⟩,void,void,void⟩
def wW (v:V):Option bd:=
 match v with
 | .ag l=>match l with
   | [a,b,c]=>match rI .i64 a with
     |some n=>match Ae b with
      |some s=>match c with
       | .ag l'=>match l' with
         | [x,y,z]=>match rK x with
           |some k=>match rK y with
            |some k'=>match rK z with
             |some k''=>some ⟨n,s,k,k',k''⟩
             |none=>none
            |none=>none
           |none=>none
         |_=>none
       |_=>none
      |none=>none
     |none=>none
   |_=>none
 |_=>none
theorem yQ:qF wW qv:=by
 intro v x h;unfold wW at h;split at h
 case h_2=>simp at h
 split at h
 case h_2=>simp at h
 rename_i a b c;split at h
 case h_2=>simp at h
 rename_i n hn;split at h
 case h_2=>simp at h
 rename_i s hs;split at h
 case h_2=>simp at h
 split at h
 case h_2=>simp at h
 rename_i p q r;split at h
 case h_2=>simp at h
 rename_i k hk;split at h
 case h_2=>simp at h
 rename_i k' hk';split at h<;>simp only[UQ,reduceCtorEq]at h
 rename_i k'' hk'';subst h;refine⟨fun J=>?_,fun K hK=>?_⟩
 ·simp only[den,qv,aT,(gF .i64 _ _ hn).1 J,(uT _ _ hs).1 J,(h9 _ _ hk).1 J,(h9 _ _ hk').1 J,(h9 _ _ hk'').1 J]
 ·obtain⟨h1,h2⟩:=hK;obtain⟨g1,g2⟩:=h1.2.2.1;exact⟨⟨(gF .i64 _ _ hn).2 K h1.1,(uT _ _ hs).2 K h1.2.1,⟨⟨(h9 _ _ hk).2 K g1.1,(h9 _ _ hk').2 K g1.2.1,(h9 _ _ hk'').2 K g1.2.2.1,trivial⟩,by simp[qu]⟩,trivial⟩,by simp[qu]⟩
def mA:Arg bd:=BR wW qv
theorem J3:lB mA:=py yQ (fun _=>rfl) fun v x h=>by cases v<;>simp[wW]at h;rfl
def gR (L:List Obj) (m:bd):Bool:=decide (ca m.data<=32)&&bJ L m.k0&&bJ L m.k1&&bJ L m.k2
def lv (L:List Obj) (m:bd):bd:=⟨m.code,m.data,ae L m.k0,ae L m.k1,ae L m.k2⟩
def D0 (s:bN) (m:bd) (a:Key):bN:=(((((s.put 2 (cP 1)).put 3 (cP m.code)).put 12 m.k0).put 13 m.k1).put 14 m.k2).put 15 a
def Jd (s:ByteArray) (g:Int):Bytes:=um (ej.put 0 (UInt8.ofNat s.size)) 1 g.toNat s
def vu (o:Obj) (m:bd) (a:Key):Obj:=⟨o.kind,o.count,o.calls,D0 o.slots m a,Jd m.data (ca m.data)⟩
def D8 (L:List Obj) (i:Int) (m:bd) (a:Key):List Obj:=cS L i.toNat (vu (ai L i.toNat free) m a)
def cm (L:List Obj) (i:Int) (k:Key) (md:Int) (m:bd):Int:=
 if ar L=0 then 1 else if¬(1<=md/\md<=3)\/bJ L k=false\/gR L m=false then 2 else if bP L i≠1 then 230
 else if aO L k=false\/¬(k.kind=6\/k.kind=7)\/bP L k.oid<0 then 231
 else if(k.kind=6/\bP L k.oid≠0/\¬(md=3/\k.oid=i))\/(k.kind=7/\bP L k.oid≠2)then 232
 else if(k.kind=7/\4294967295<=(ai L k.oid.toNat free).calls)\/(md=1/\4294967295<=(ai L i.toNat free).calls)then 233 else 0
def jH (L:List Obj) (i md:Int):Key:=if md=1 then⟨7,i,(ai L i.toNat free).count,(ai L i.toNat free).calls,0,0⟩else void
def hJ (md:Int):Int:=if md=1 then 2 else if md=2 then 1 else 0
def DX (L:List Obj) (i:Int) (k:Key) (md:Int) (m:bd):Prop:=
 ar L≠0/\(1<=md/\md<=3)/\bJ L k=true/\gR L m=true/\bP L i=1/\aO L k=true/\(k.kind=6\/k.kind=7)/\0<=bP L k.oid/\
 ¬((k.kind=6/\bP L k.oid≠0/\¬(md=3/\k.oid=i))\/(k.kind=7/\bP L k.oid≠2))/\¬(k.kind=7/\4294967295<=(ai L k.oid.toNat free).calls)
def pd (L:List Obj) (i:Int) (k:Key) (md:Int) (m:bd):Prop:=cm L i k md m=0
def N8 (o:Obj):Obj:= {o with calls:=o.calls+1}
def gr (L:List Obj) (i md:Int):List Obj:=cS L i.toNat (Bt (ai L i.toNat free) (hJ md))
def gS (L:List Obj) (i:Int) (k:Key) (md:Int):List Obj:=if k.kind=7 then cS (gr L i md) k.oid.toNat (N8 (ai (gr L i md) k.oid.toNat free))else gr L i md
def fh (L:List Obj) (i:Int) (k:Key) (md:Int) (m:bd):List Obj:=if cm L i k md m=0 then D8 (gS L i k md) k.oid (lv L m) (jH L i md)else L
def iN (L:List Obj) (i:Int) (m:bd):Int:=if ar L=0 then 1 else if gR L m=false then 2 else if bP L i≠1 then 230 else 0
def jO (L:List Obj) (i:Int) (m:bd):List Obj:=if iN L i m=0 then D8 L i (lv L m) void else L
abbrev tM:Nat:=47
def Tu:lQ (Int×Key×Int×bd×Unit):=bD iA (bD kA (bD iA (bD mA kc)))
theorem Qn:ia Tu:=aK fE (aK lZ (aK fE (aK J3 dP)))
def TO:lQ (Int×bd×Unit):=bD iA (bD mA kc)
theorem QQ:ia TO:=aK fE (aK J3 dP)
def R2:nf:=Q6 (KC Tu) (fun x=>au x.2.2.2.1.data) (fun L x=>an L/\au x.2.2.2.1.data) (fun L x=> .it .i64 (cm L x.1 x.2.1 x.2.2.1 x.2.2.2.1)) fun L x=>fh L x.1 x.2.1 x.2.2.1 x.2.2.2.1
def Sz:nf:=Q6 (KC TO) (fun x=>au x.2.1.data) (fun L x=>an L/\au x.2.1.data) (fun L x=> .it .i64 (iN L x.1 x.2.1)) fun L x=>jO L x.1 x.2.1
def Cu:Ct:=fun res _ xs=>match xs with
 | [a]=>match rS tS eS res a with
   |some (_,L)=>match L with
    | []=>some (none,.ci .i64 0,[])
    |_=>none
   |none=>none
 |_=>none
theorem Nz {P:Program} {f:Nat} (h:dA P f Cx):dA P f Cu:=by
 intro J fps res K w0 F0 w nid args q x new hH hargs hg hq hfr;unfold Cu at hg;split at hg
 case h_2=>simp at hg
 rename_i a;split at hg
 case h_2=>simp at hg
 rename_i o L hr;split at hg<;>simp only[UQ,UR,reduceCtorEq]at hg
 obtain⟨rfl,rfl,rfl⟩:=hg;obtain⟨h1,h2⟩:=h J fps res K w0 F0 w nid [a] none (.it .i64 (ah [])) [] hH hargs (by unfold Cx QY;simp only[hr]) trivial hfr
 refine⟨h1.mono ?_,h2⟩;rintro e w' ⟨v,he,ρ',g,hv,_⟩
 refine⟨v,he,ρ',g,hv,?_⟩;simp[ok,b7]
def UH (nid:Nat):V:= .mp nid
def UI (nid:Nat):List aA:= [.mp .i64 [6,7] [.fn 126 [],.fn 127 []]]
def eu (L:List Obj) (g:Int):List Int:=((List.range g.toNat).filter fun(j:Nat)=>decide (bP L (j:Int)=1)).map Int.ofNat
def jc (L:List Obj) (g:Int):Prop:=0<=g/\g<=(ar L:Int)
def iV (L:List Obj):Prop:=L.length<=1000
def RI:nf:=Rh (bD sA kc) (fun x=>iV (zY x.1)) (fun _=>true) (fun _=>kz) (fun _ n=> .sa n) fun x=> .arr (some tI) 1 (.it .i64 (eu (zY x.1) (dJ (ar (zY x.1)))))
end Go.Sx
set_option maxRecDepth 100000
namespace Go.Sx
theorem Hr {L:List Obj} {i:Int} (h:(az L i).kind=1):0<=i/\i<(L.length:Int)/\az L i=ai L i.toNat free:=by
 by_cases hr:i<0\/(L.length:Int)<=i
 ·rw[Qf hr]at h;simp[free]at h
 ·exact⟨by omega,by omega,fG (by omega) (by omega)⟩
theorem qy {L:List Obj} {i:Int} (h:cR L i=true):0<=i/\i<(L.length:Int)/\az L i=ai L i.toNat free/\(ai L i.toNat free).kind=1:=by
 have hk:=((wo _).1 h).1;obtain⟨a,b,c⟩:=Hr hk;rw[c]at hk;exact⟨a,b,c,hk⟩
theorem rA {L:List Obj} {i:Int}:(0<=bP L i↔cR L i=true)/\(bP L i<0↔cR L i=false):=by
 cases h:cR L i with
 |false=>rw[(ve h).1];simp
 |true=>
  have h2:=(kS h).1;have h3:=((wo _).1 h).2.2.1;rw[<-h2]at h3;simp;exact h3
theorem D2 {L:List Obj} {i:Int}:(cR L i&&decide (gn L i=1))=decide (bP L i=1):=by
 cases h:cR L i with
 |false=>rw[(ve h).1];simp
 |true=>rw[(kS h).1,(kS h).2];simp
theorem Rn {L:List Obj} {i:Int} (h:cR L i=true):gn L i=bP L i:=by rw[(kS h).1,(kS h).2]
theorem JW {o:Obj} {n st:Int} (h:bu o n=true) (hk:o.kind=1):bu (Bt o st) n=true:=by
 have hn:=(ec.1 h).1;exact wU h hk (K3 (by omega) (pC h hk) (pF (by omega) _))
theorem GH {o:Obj} {n:Int} (h:bu o n=true) (hk:o.kind=1) (hc:o.calls<4294967295):bu (N8 o) n=true:=by
 obtain⟨a1,a2,a3,a4,a5,a6,a7,a8,a9,a10,a11⟩:=ec.1 h;rw[ec];exact⟨a1,a2,a3,a4,a5,a6,by show 0<=o.calls+1;omega,by show o.calls+1<=4294967295;omega,.inl hk,a10,a11⟩
theorem Kj {o:Obj} {n:Int} {s:bN} {b:Bytes} (h:bu o n=true) (hk:o.kind=1) (hs:∀i,i<16->cc n (s.at i)):bu (jr (fu o s) b) n=true:=by
 have h':bu (fu o s) n=true:=wU h hk hs;have hk':(fu o s).kind=1:=hk;exact KN h' (Or.inl hk')
theorem C5 {o:Obj} {n:Int} {m:bd} {a:Key} (h:bu o n=true) (hk:o.kind=1) (h0:cc n m.k0) (h1:cc n m.k1) (h2:cc n m.k2) (ha:cc n a):bu (vu o m a) n=true:=by
 have hn:=(ec.1 h).1
 have hs:∀i,i<16->cc n ((D0 o.slots m a).at i):=fun i hi=>by
  unfold D0;rw[bN.eM _ _ _ _ (by omega),bN.eM _ _ _ _ (by omega),bN.eM _ _ _ _ (by omega),bN.eM _ _ _ _ (by omega),bN.eM _ _ _ _ (by omega),bN.eM _ _ _ _ (by omega)]
  split
  ·exact ha
  ·split
   ·exact h2
   ·split
    ·exact h1
    ·split
     ·exact h0
     ·split
      ·exact pF (by omega) _
      ·split
       ·exact pF (by omega) _
       ·exact pC h hk i hi
 have e:vu o m a=jr (fu o (D0 o.slots m a)) (Jd m.data (ca m.data)):=by unfold vu jr fu;rfl
 rw[e];exact Kj h hk hs
theorem wT {n:Int} (hn:0<=n):cc n void:=⟨kY.1,by rw[kY.2];omega⟩
theorem MR {n i c d:Int} (h0:0<=i) (h1:i<n) (h2:n<=64) (c0:0<=c) (c1:c<=4294967295) (d0:0<=d) (d1:d<=4294967295):cc n ⟨7,i,c,d,0,0⟩:=by
 have hk:aP ⟨7,i,c,d,0,0⟩=true:=by
  unfold aP qj gm n9 eT dZ;simp;omega
 refine⟨hk,?_⟩;unfold cF;rw[hk];simp[gm];omega
theorem zt {L:List Obj} (hL:0<L.length) (m:bd):cc (L.length:Int) (lv L m).k0/\cc (L.length:Int) (lv L m).k1/\cc (L.length:Int) (lv L m).k2:=⟨nc hL _,nc hL _,nc hL _⟩
theorem KU {s:ByteArray} (h:ca s<=32):Ge (ej.put 0 (P7 (ca s))) (Int.toNat 1) (Int.toNat 64) s=Jd s (ca s):=by
 have hz:(s.size:Int)<=32:=h;have e:Nat.min s.size (64-1)=s.size:=Nat.min_eq_left (by omega)
 show um _ 1 (Nat.min s.size (64-1)) s=um _ 1 (ca s).toNat s
 rw[e];rfl
theorem N7 {L:List Obj} {i st:Int} (h:eo L i st=0):(0<=i/\i<(L.length:Int))/\az L i=ai L i.toNat free/\(ai L i.toNat free).kind=1/\0<=st/\st<=2:=by
 unfold eo at h;split at h
 ·omega
 ·split at h
  ·omega
  ·split at h
   ·omega
   ·rename_i h1 h2 h3;have h2:(az L i).kind=1:=by omega
    obtain⟨a,b,c⟩:=Hr h2;exact⟨⟨a,b⟩,c,by rw[<-c];exact h2,by omega,by omega⟩
theorem Cj {L:List Obj} {i st:Int} (hL:an L):an (hU L i st):=by
 unfold hU;split
 ·rename_i h;obtain⟨⟨a,b⟩,c,d,_⟩:=N7 h;rw[c];exact jD hL (JW (cz hL _ (by omega)) d)
 ·exact hL
theorem Cb {L:List Obj} {i st e:Int} (h:eo L i st=e) (he:e≠0):e=eo L i st/\L=hU L i st:=⟨h.symm,by unfold hU;rw[h,UZ he]⟩
theorem Sa {L:List Obj} {i st:Int} (h:ar L=0):eo L i st=1:=by unfold eo;rw[U0 h]
theorem Nn {L:List Obj} {i st:Int} (h:ar L≠0) (h2:¬(az L i).kind=1):eo L i st=230:=by unfold eo;rw[UZ h,U0 h2]
theorem R4 {L:List Obj} {i st:Int} (h:ar L≠0) (h2:(az L i).kind=1) (h3:st<0\/2<st):eo L i st=2:=by unfold eo;rw[UZ h,UZ (by omega),U0 h3]
theorem Oh {L:List Obj} {i st:Int} (h:ar L≠0) (h2:(az L i).kind=1) (h3:¬(st<0\/2<st)):eo L i st=0:=by unfold eo;rw[UZ h,UZ (by omega),UZ h3]
theorem Hc {L:List Obj} {i st:Int} (hL:an L) (h:eo L i st=0):eH L i (Bt (az L i) st)=0/\bO L i (Bt (az L i) st)=hU L i st:=by
 obtain⟨⟨a,b⟩,c,d,_⟩:=N7 h;obtain⟨p1,p2⟩:=jV a b (JW (st:=st) (cz hL _ (by omega)) d)
 rw[c,p1,p2];refine⟨rfl,?_⟩;unfold hU;rw[U0 h,c]
theorem C9 {L:List Obj} {m:bd} (h:gR L m=true):ca m.data<=32:=by
 unfold gR at h;simp only[US,UT]at h;exact h.1.1.1
section
variable {L:List Obj} {i:Int} {k:Key} {md:Int} {m:bd}
theorem SG (a:ar L=0):cm L i k md m=1:=by unfold cm;rw[U0 a]
theorem CP (a:ar L≠0) (b:¬(1<=md/\md<=3)\/bJ L k=false\/gR L m=false):cm L i k md m=2:=by unfold cm;rw[UZ a,U0 b]
theorem Jg (a:ar L≠0) (b:¬(¬(1<=md/\md<=3)\/bJ L k=false\/gR L m=false)) (c:bP L i≠1):cm L i k md m=230:=by unfold cm;rw[UZ a,UZ b,U0 c]
theorem CO (a:ar L≠0) (b:¬(¬(1<=md/\md<=3)\/bJ L k=false\/gR L m=false)) (c:bP L i=1) (d:aO L k=false\/¬(k.kind=6\/k.kind=7)\/bP L k.oid<0):cm L i k md m=231:=by
 unfold cm;rw[UZ a,UZ b,UZ (by omega),U0 d]
theorem Cz (a:ar L≠0) (b:¬(¬(1<=md/\md<=3)\/bJ L k=false\/gR L m=false)) (c:bP L i=1) (d:¬(aO L k=false\/¬(k.kind=6\/k.kind=7)\/bP L k.oid<0))
  (e:(k.kind=6/\bP L k.oid≠0/\¬(md=3/\k.oid=i))\/(k.kind=7/\bP L k.oid≠2)):cm L i k md m=232:=by
 unfold cm;rw[UZ a,UZ b,UZ (by omega),UZ d,U0 e]
theorem Di (a:ar L≠0) (b:¬(¬(1<=md/\md<=3)\/bJ L k=false\/gR L m=false)) (c:bP L i=1) (d:¬(aO L k=false\/¬(k.kind=6\/k.kind=7)\/bP L k.oid<0))
  (e:¬((k.kind=6/\bP L k.oid≠0/\¬(md=3/\k.oid=i))\/(k.kind=7/\bP L k.oid≠2))) (f:(k.kind=7/\4294967295<=(ai L k.oid.toNat free).calls)\/(md=1/\4294967295<=(ai L i.toNat free).calls)):cm L i k md m=233:=by
 unfold cm;rw[UZ a,UZ b,UZ (by omega),UZ d,UZ e,U0 f]
theorem TY (a:ar L≠0) (b:¬(¬(1<=md/\md<=3)\/bJ L k=false\/gR L m=false)) (c:bP L i=1) (d:¬(aO L k=false\/¬(k.kind=6\/k.kind=7)\/bP L k.oid<0))
  (e:¬((k.kind=6/\bP L k.oid≠0/\¬(md=3/\k.oid=i))\/(k.kind=7/\bP L k.oid≠2))) (f:¬((k.kind=7/\4294967295<=(ai L k.oid.toNat free).calls)\/(md=1/\4294967295<=(ai L i.toNat free).calls))):cm L i k md m=0:=by
 unfold cm;rw[UZ a,UZ b,UZ (by omega),UZ d,UZ e,UZ f]
theorem QA (h:cm L i k md m=0):ar L≠0/\¬(¬(1<=md/\md<=3)\/bJ L k=false\/gR L m=false)/\bP L i=1/\¬(aO L k=false\/¬(k.kind=6\/k.kind=7)\/bP L k.oid<0)/\
  ¬((k.kind=6/\bP L k.oid≠0/\¬(md=3/\k.oid=i))\/(k.kind=7/\bP L k.oid≠2))/\¬((k.kind=7/\4294967295<=(ai L k.oid.toNat free).calls)\/(md=1/\4294967295<=(ai L i.toNat free).calls)):=by
 by_cases a:ar L=0
 ·rw[SG a]at h;omega
 ·by_cases b:¬(1<=md/\md<=3)\/bJ L k=false\/gR L m=false
  ·rw[CP a b]at h;omega
  ·by_cases c:bP L i=1
   ·by_cases d:aO L k=false\/¬(k.kind=6\/k.kind=7)\/bP L k.oid<0
    ·rw[CO a b c d]at h;omega
    ·by_cases e:(k.kind=6/\bP L k.oid≠0/\¬(md=3/\k.oid=i))\/(k.kind=7/\bP L k.oid≠2)
     ·rw[Cz a b c d e]at h;omega
     ·by_cases f:(k.kind=7/\4294967295<=(ai L k.oid.toNat free).calls)\/(md=1/\4294967295<=(ai L i.toNat free).calls)
      ·rw[Di a b c d e f]at h;omega
      ·exact⟨a,b,c,d,e,f⟩
   ·rw[Jg a b c]at h;omega
theorem lM {e:Int} (h:cm L i k md m=e) (he:e≠0):e=cm L i k md m/\L=fh L i k md m:=⟨h.symm,by unfold fh;rw[h,UZ he]⟩
theorem GZ (h:1<=md/\md<=3):0<=hJ md/\hJ md<=2/\ai [0,2,1,0] md.toNat 0=hJ md/\vn (decide (md=1)) 2 (vn (decide (md=2)) 1 (vn (decide (md=3)) 0 0))=hJ md:=by
 have:md=1\/md=2\/md=3:=by omega
 rcases this with rfl|rfl|rfl<;>decide
theorem Bf (hL:an L) (hE:cm L i k md m=0):
  ((0<=i/\i<(L.length:Int))/\az L i=ai L i.toNat free/\(ai L i.toNat free).kind=1)/\((0<=k.oid/\k.oid<(L.length:Int))/\az L k.oid=ai L k.oid.toNat free/\(ai L k.oid.toNat free).kind=1)/\
  (eo L i (hJ md)=0/\hU L i (hJ md)=gr L i md)/\(an (gr L i md)/\(gr L i md).length=L.length)/\(an (gS L i k md)/\(gS L i k md).length=L.length)/\
  ((ai (gr L i md) k.oid.toNat free).kind=1/\(ai (gr L i md) k.oid.toNat free).calls=(ai L k.oid.toNat free).calls)/\(ai (gS L i k md) k.oid.toNat free).kind=1/\ca m.data<=32/\cc (L.length:Int) (jH L i md):=by
 obtain⟨a,b,c,d,e,f⟩:=QA hE
 have b1:1<=md/\md<=3:=by
  by_cases h:1<=md/\md<=3
  ·exact h
  ·exact absurd (.inl h) b
 have b3:gR L m=true:=by
  cases h:gR L m with
  |true=>rfl
  |false=>exact absurd (.inr (.inr h)) b
 have d3:0<=bP L k.oid:=by
  by_cases h:bP L k.oid<0
  ·exact absurd (.inr (.inr h)) d
  ·omega
 obtain⟨i0,i1,i2,i3⟩:=qy (rA.1.1 (by omega:0<=bP L i))
 obtain⟨k0,k1,k2,k3⟩:=qy (rA.1.1 d3);obtain⟨n0,n1,_,_⟩:=GZ b1;have hb:eo L i (hJ md)=0:=Oh a (by rw[i2];exact i3) (by omega)
 have h1:hU L i (hJ md)=gr L i md:=by unfold hU gr;rw[U0 hb,i2]
 have o1:an (gr L i md):=by rw[<-h1];exact Cj hL
 have l1:(gr L i md).length=L.length:=by unfold gr;rw[gJ]
 have g1:(ai (gr L i md) k.oid.toNat free).kind=1/\(ai (gr L i md) k.oid.toNat free).calls=(ai L k.oid.toNat free).calls:=by
  unfold gr;rw[eJ (by omega)]
  split
  ·rename_i e;rw[e];exact⟨i3,rfl⟩
  ·exact⟨k3,rfl⟩
 have l2:(gS L i k md).length=L.length:=by
  unfold gS;split
  ·rw[gJ,l1]
  ·exact l1
 have o2:an (gS L i k md):=by
  unfold gS;split
  ·rename_i h7;have hc:¬4294967295<=(ai L k.oid.toNat free).calls:=fun h=>f (.inl ⟨h7,h⟩)
   exact jD o1 (GH (cz o1 _ (by rw[l1];omega)) g1.1 (by rw[g1.2];omega))
  ·exact o1
 have g2:(ai (gS L i k md) k.oid.toNat free).kind=1:=by
  unfold gS;split
  ·rw[eJ (by rw[l1];omega),U0 rfl];exact g1.1
  ·exact g1.1
 have ho:=ec.1 (cz hL i.toNat (by omega))
 have hn:=(jy hL)
 have hA:cc (L.length:Int) (jH L i md):=by
  unfold jH;split
  ·exact MR i0 i1 (by omega) ho.2.2.2.2.1 ho.2.2.2.2.2.1 ho.2.2.2.2.2.2.1 ho.2.2.2.2.2.2.2.1
  ·exact wT (by omega)
 exact⟨⟨⟨i0,i1⟩,i2,i3⟩,⟨⟨k0,k1⟩,k2,k3⟩,⟨hb,h1⟩,⟨o1,l1⟩,⟨o2,l2⟩,g1,g2,C9 b3,hA⟩
theorem HC (hL:an L) (hE:cm L i k md m=0):an (fh L i k md m)/\(fh L i k md m).length=L.length/\bO (gS L i k md) k.oid (vu (az (gS L i k md) k.oid) (lv L m) (jH L i md))=fh L i k md m:=by
 obtain⟨_,⟨⟨k0,k1⟩,_,_⟩,_,_,⟨o2,l2⟩,_,g2,_,hA⟩:=Bf hL hE;obtain⟨f0,f1,f2⟩:=zt (by have:=jy hL;omega:0<L.length) m
 have ho:=C5 (m:=lv L m) (a:=jH L i md) (cz o2 k.oid.toNat (by omega)) g2 (by rw[l2];exact f0) (by rw[l2];exact f1) (by rw[l2];exact f2) (by rw[l2];exact hA)
 have hq:fh L i k md m=cS (gS L i k md) k.oid.toNat (vu (ai (gS L i k md) k.oid.toNat free) (lv L m) (jH L i md)):=by unfold fh D8;rw[U0 hE]
 rw[hq,fG k0 (by omega)]
 exact⟨jD o2 ho,by rw[gJ,l2],(jV k0 (by omega) ho).1⟩
theorem OQ (hL:an L):an (fh L i k md m):=by
 by_cases hE:cm L i k md m=0
 ·exact(HC hL hE).1
 ·rw[<-(lM rfl hE).2];exact hL
end
theorem F2 (L:List Obj):eu L 0= []:=rfl
theorem FB (L:List Obj) {g:Int} (h:0<=g):eu L (g+1)=if bP L g=1 then gu (eu L g) g else eu L g:=by
 unfold eu gu;rw[show(g+1).toNat=g.toNat+1 by omega,List.range_succ,List.filter_append,List.map_append]
 have e:((g.toNat:Nat):Int)=g:=by omega
 by_cases hp:bP L g=1
 ·rw[U0 hp];simp[e,hp]
 ·rw[UZ hp];simp[e,hp]
theorem BI (L:List Obj) (g:Int):ar (eu L g)<=g.toNat:=by
 unfold eu ar;rw[List.length_map];exact Nat.le_trans (List.length_filter_le _ _) (by rw[List.length_range];exact Nat.le_refl _)
theorem IE {L:List Obj} {g:Int} (hl:iV L) (h1:g<(L.length:Int)):qz (ar (eu L g)) 8:=by
 have:=BI L g;unfold iV at hl;unfold qz maxLen;omega
theorem KF {L:List Obj} {g:Int} (hl:iV L) (h0:jc L g) (h1:g<(L.length:Int)):aL IntKind.i64 (g+1)/\jc L (g+1)/\(dJ (ar L)-(g+1)).toNat<(dJ (ar L)-g).toNat:=by
 unfold iV at hl;unfold jc dJ ar at *;simp only[aL,b7];omega
end Go.Sx
