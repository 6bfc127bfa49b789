import Derived.Test.YtlblcfaclmpekaaGreatMa13
set_option linter.unusedSimpArgs false
set_option linter.unusedVariables false
set_option maxRecDepth 100000
namespace Go.Sx
def wR (o:Obj):Bool:=decide (o.kind=1)&&decide ((o.slots.at 2).kind=1)&&decide (0<=(o.slots.at 2).value)&&decide ((o.slots.at 2).value<=2)
def dP (L:List Obj) (i:Int):Bool:=wR (aL L i)
def iC (L:List Obj) (i:Int):Int:=if dP L i=true then((aL L i).slots.at 2).value else 0
def bz (L:List Obj) (i:Int):Int:=if dP L i=true then((aL L i).slots.at 2).value else -1
def iQ:ld (Int×Unit):=bc iA gK
theorem Vc:gS iQ:=aA dN bV
def Yr:Ct:=ti (bc As iQ) (fun _=>none) fun x=> .it .i64 (bz x.1 x.2.1)
def Zg:Ct:=ti (bc sA iQ) (fun _=>none) fun x=> .tp [.it .i64 (iC (Dx x.1) x.2.1),.bo (dP (Dx x.1) x.2.1)]
theorem O0 {L:List Obj} {i:Int} (h:i<0\/(L.length:Int)<=i):aL L i=free:=by
 unfold aL;rw[aa8 fun e=>by have:=lE.1 e;omega]
theorem uz (o:Obj):wR o=true↔o.kind=1/\(o.slots.at 2).kind=1/\0<=(o.slots.at 2).value/\(o.slots.at 2).value<=2:=by
 unfold wR;simp only[aa2,aa3,and_assoc]
theorem tX {L:List Obj} {i:Int} (h:dP L i=false):bz L i= -1/\iC L i=0:=by
 unfold bz iC;rw[h];exact⟨rfl,rfl⟩
theorem mr {L:List Obj} {i:Int} (h:dP L i=true):bz L i=((aL L i).slots.at 2).value/\iC L i=((aL L i).slots.at 2).value:=by
 unfold bz iC;rw[h];exact⟨rfl,rfl⟩
theorem yo (o:Obj):(!decide (o.kind=1)|| !decide ((o.slots.at 2).kind=1)||decide ((o.slots.at 2).value<0)||decide (2<(o.slots.at 2).value))= !wR o:=by
 have h:=uz o;cases hp:wR o with
 |true=>
  obtain⟨a,b,c,d⟩:=h.1 hp;have c':¬(o.slots.at 2).value<0:=by omega
  have d':¬2<(o.slots.at 2).value:=by omega
  simp[a,b,c',d']
 |false=>
  rw[Bool.not_false,Bool.or_eq_true,Bool.or_eq_true,Bool.or_eq_true,Bool.not_eq_true',Bool.not_eq_true',decide_eq_false_iff_not,decide_eq_false_iff_not,aa3,aa3];rw[hp]at h;have hn:¬(o.kind=1/\(o.slots.at 2).kind=1/\0<=(o.slots.at 2).value/\(o.slots.at 2).value<=2):=fun hh=>by have:=h.2 hh;simp at this
  omega
def eu (L:List Obj) (i st:Int):Int:=if ai L=0 then 1 else if¬(aL L i).kind=1 then 230 else if st<0\/2<st then 2 else 0
def Fx (o:Obj) (st:Int):Obj:= {o with slots:=o.slots.put 2 (cK st)}
def dc (L:List Obj) (i st:Int):List Obj:=if eu L i st=0 then cA L i.toNat (Fx (aL L i) st)else L
def ko (L:List Obj) (i st:Int):Bool:=decide (eu L i st=0)
def YZ:ld (Int×Int×Unit):=bc iA (bc iA gK)
theorem Qs:gS YZ:=aA dN (aA dN bV)
def V3:kc:=Ar (uk YZ) (fun L _=>ar L) (fun L x=>ko L x.1 x.2.1) (fun L x=>dc L x.1 x.2.1) fun L x=> [.it .i64 (eu L x.1 x.2.1)]
def Z8:kc:=Jd (uk YZ) (fun L _=>ar L) (fun L x=> .it .i64 (eu L x.1 x.2.1)) fun L x=>dc L x.1 x.2.1
structure br where
 code:Int
 data:ByteArray
 k0:Key
 k1:Key
 k2:Key
def jG (m:br):V:= .ag [.it .i64 m.code,.st m.data,.ag [.key m.k0,.key m.k1,.key m.k2]]
def cY:br:=⟨0,⟨#[]⟩,void,void,void⟩
def Aw (v:V):Option br:=
 match v with
 | .ag l=>match l with
   | [a,b,c]=>match rI .i64 a with
     |some n=>match Fc b with
      |some s=>match c with
       | .ag l'=>match l' with
         | [x,y,z]=>match rK x with
           |some k=>match rK y with
            |some k'=>match rK z with
             |some k''=>some ⟨n,s,k,k',k''⟩
             |none=>none
            |none=>none
           |none=>none
         |_=>none
       |_=>none
      |none=>none
     |none=>none
   |_=>none
 |_=>none
theorem CV:sV Aw jG:=by
 intro v x h;unfold Aw at h;split at h
 case h_2=>simp at h
 split at h
 case h_2=>simp at h
 rename_i a b c;split at h
 case h_2=>simp at h
 rename_i n hn;split at h
 case h_2=>simp at h
 rename_i s hs;split at h
 case h_2=>simp at h
 split at h
 case h_2=>simp at h
 rename_i p q r;split at h
 case h_2=>simp at h
 rename_i k hk;split at h
 case h_2=>simp at h
 rename_i k' hk';split at h<;>simp only[aa0,reduceCtorEq]at h
 rename_i k'' hk'';subst h;refine⟨fun J=>?_,fun K hK=>?_⟩
 ·simp only[den,jG,bp,(gi .i64 _ _ hn).1 J,(xI _ _ hs).1 J,(gH _ _ hk).1 J,(gH _ _ hk').1 J,(gH _ _ hk'').1 J]
 ·obtain⟨h1,h2⟩:=hK;obtain⟨g1,g2⟩:=h1.2.2.1;exact⟨⟨(gi .i64 _ _ hn).2 K h1.1,(xI _ _ hs).2 K h1.2.1,⟨⟨(gH _ _ hk).2 K g1.1,(gH _ _ hk').2 K g1.2.1,(gH _ _ hk'').2 K g1.2.2.1,trivial⟩,by simp[tg]⟩,trivial⟩,by simp[tg]⟩
def mA:Arg br:=D3 Aw jG
theorem zN:mT mA:=sC CV (fun _=>rfl) fun v x h=>by cases v<;>simp[Aw]at h;rfl
def fj (L:List Obj) (m:br):Bool:=decide (bN m.data<=32)&&bJ L m.k0&&bJ L m.k1&&bJ L m.k2
def aH (L:List Obj) (m:br):br:=⟨m.code,m.data,ah L m.k0,ah L m.k1,ah L m.k2⟩
def Bd (s:cL) (m:br) (a:Key):cL:=(((((s.put 2 (cK 1)).put 3 (cK m.code)).put 12 m.k0).put 13 m.k1).put 14 m.k2).put 15 a
def BG (s:ByteArray) (g:Int):Bytes:=sS (fa.put 0 (UInt8.ofNat s.size)) 1 g.toNat s
def yE (o:Obj) (m:br) (a:Key):Obj:=⟨o.kind,o.count,o.calls,Bd o.slots m a,BG m.data (bN m.data)⟩
def ri (L:List Obj) (i:Int) (m:br) (a:Key) (g:Int):Obj:=⟨(aj L i.toNat free).kind,(aj L i.toNat free).count,(aj L i.toNat free).calls,Bd (aj L i.toNat free).slots m a,BG m.data g⟩
def rC (L:List Obj) (i:Int) (m:br) (a:Key):List Obj:=cA L i.toNat (yE (aj L i.toNat free) m a)
def hdB:ld (List Obj×Int×br×Key×Unit):=bc As (bc iA (bc mA (bc kA gK)))
theorem Xd:gS hdB:=aA jb (aA dN (aA zN (aA iF bV)))
def Bb (L:List Obj) (i:Int) (m:br):Prop:=dI L i/\(0<=i/\i<(ai L:Int))/\bN m.data<=32
def SK:kc:=QG hdB (fun x=>Bb x.1 x.2.1 x.2.2.1) (fun _=>true) (fun _=>jJ) (fun _ n=> .sa n) fun x=> .arr (some tO) 163 (.ob (rC x.1 x.2.1 x.2.2.1 x.2.2.2.1))
def V9:Ct:=ti (bc As (bc mA gK)) (fun x=>some (aw x.2.1.data)) fun x=> .bo (fj x.1 x.2.1)
def Ww:Ct:=ti (bc As (bc mA gK)) (fun _=>none) fun x=>jG (aH x.1 x.2.1)
def b7 (L:List Obj) (i:Int) (k:Key) (md:Int) (m:br):Int:=
 if ai L=0 then 1 else if¬(1<=md/\md<=3)\/bJ L k=false\/fj L m=false then 2 else if bz L i≠1 then 230
 else if aU L k=false\/¬(k.kind=6\/k.kind=7)\/bz L k.oid<0 then 231
 else if(k.kind=6/\bz L k.oid≠0/\¬(md=3/\k.oid=i))\/(k.kind=7/\bz L k.oid≠2)then 232
 else if(k.kind=7/\4294967295<=(aj L k.oid.toNat free).calls)\/(md=1/\4294967295<=(aj L i.toNat free).calls)then 233 else 0
def iJ (L:List Obj) (i md:Int):Key:=if md=1 then⟨7,i,(aj L i.toNat free).count,(aj L i.toNat free).calls,0,0⟩else void
def jR (md:Int):Int:=if md=1 then 2 else if md=2 then 1 else 0
def Iw (L:List Obj) (i:Int) (k:Key) (md:Int) (m:br):Prop:=
 ai L≠0/\(1<=md/\md<=3)/\bJ L k=true/\fj L m=true/\bz L i=1/\aU L k=true/\(k.kind=6\/k.kind=7)/\0<=bz L k.oid/\
 ¬((k.kind=6/\bz L k.oid≠0/\¬(md=3/\k.oid=i))\/(k.kind=7/\bz L k.oid≠2))/\¬(k.kind=7/\4294967295<=(aj L k.oid.toNat free).calls)
def nP (L:List Obj) (i:Int) (k:Key) (md:Int) (m:br):Prop:=b7 L i k md m=0
def PR (o:Obj):Obj:= {o with calls:=o.calls+1}
def gJ (L:List Obj) (i md:Int):List Obj:=cA L i.toNat (Fx (aj L i.toNat free) (jR md))
def gY (L:List Obj) (i:Int) (k:Key) (md:Int):List Obj:=if k.kind=7 then cA (gJ L i md) k.oid.toNat (PR (aj (gJ L i md) k.oid.toNat free))else gJ L i md
def fe (L:List Obj) (i:Int) (k:Key) (md:Int) (m:br):List Obj:=if b7 L i k md m=0 then rC (gY L i k md) k.oid (aH L m) (iJ L i md)else L
def lK (L:List Obj) (i:Int) (k:Key) (md:Int) (m:br):Bool:=decide (b7 L i k md m=0)
def gd (L:List Obj) (i:Int) (m:br):Int:=if ai L=0 then 1 else if fj L m=false then 2 else if bz L i≠1 then 230 else 0
def gw (L:List Obj) (i:Int) (m:br):List Obj:=if gd L i m=0 then rC L i (aH L m) void else L
def pf (L:List Obj) (i:Int) (m:br):Bool:=decide (gd L i m=0)
abbrev tM:Nat:=47
def bcB:ld (List Obj×Int×Int×Unit):=bc As (bc iA (bc iA gK))
theorem XB:gS bcB:=aA jb (aA dN (aA dN bV))
def Iu (L:List Obj) (i st:Int):Prop:=eu L i st=0/\ar L
def SH:kc:=QG bcB (fun x=>Iu x.1 x.2.1 x.2.2.1) (fun _=>true) (fun _=>jJ) (fun _ n=> .tp [.sa n,.ci .i64 0]) fun x=> .arr (some tO) 163 (.ob (dc x.1 x.2.1 x.2.2.1))
def ZM:ld (Int×Key×Int×br×Unit):=bc iA (bc kA (bc iA (bc mA gK)))
theorem Ok:gS ZM:=aA dN (aA iF (aA dN (aA zN bV)))
def ZI:ld (Int×br×Unit):=bc iA (bc mA gK)
theorem KB:gS ZI:=aA dN (aA zN bV)
def XD:kc:=Ar (uk ZM) (fun L x=>ar L/\aw x.2.2.2.1.data) (fun L x=>lK L x.1 x.2.1 x.2.2.1 x.2.2.2.1) (fun L x=>fe L x.1 x.2.1 x.2.2.1 x.2.2.2.1) fun L x=> [.it .i64 (b7 L x.1 x.2.1 x.2.2.1 x.2.2.2.1)]
def Xx:kc:=Ar (uk ZI) (fun L x=>ar L/\aw x.2.1.data) (fun L x=>pf L x.1 x.2.1) (fun L x=>gw L x.1 x.2.1) fun L x=> [.it .i64 (gd L x.1 x.2.1)]
def ZV:kc:=YB (uk ZM) (fun x=>aw x.2.2.2.1.data) (fun L x=>ar L/\aw x.2.2.2.1.data) (fun L x=> .it .i64 (b7 L x.1 x.2.1 x.2.2.1 x.2.2.2.1)) fun L x=>fe L x.1 x.2.1 x.2.2.1 x.2.2.2.1
def aah:kc:=YB (uk ZI) (fun x=>aw x.2.1.data) (fun L x=>ar L/\aw x.2.1.data) (fun L x=> .it .i64 (gd L x.1 x.2.1)) fun L x=>gw L x.1 x.2.1
def F3:Ct:=fun res _ xs=>match xs with
 | [a]=>match rS tS eS res a with
   |some (_,L)=>match L with
    | []=>some (none,.ci .i64 0,[])
    |_=>none
   |none=>none
 |_=>none
theorem Te {P:Program} {f:Nat} (h:cq P f FY):cq P f F3:=by
 intro J fps res K w0 F0 w nid args q x new hH hargs hg hq hfr;unfold F3 at hg;split at hg
 case h_2=>simp at hg
 rename_i a;split at hg
 case h_2=>simp at hg
 rename_i o L hr;split at hg<;>simp only[aa0,aa1,reduceCtorEq]at hg
 obtain⟨rfl,rfl,rfl⟩:=hg;obtain⟨h1,h2⟩:=h J fps res K w0 F0 w nid [a] none (.it .i64 (ak [])) [] hH hargs (by unfold FY XI;simp only[hr]) trivial hfr
 refine⟨h1.mono ?_,h2⟩;rintro e w' ⟨v,he,ρ',g,hv,_⟩
 refine⟨v,he,ρ',g,hv,?_⟩;simp[ok,bY]
def kdX (nid:Nat):V:= .mp nid
def kdN (nid:Nat):List aK:= [.mp .i64 [6,7] [.fn 126 [],.fn 127 []]]
def dJ (L:List Obj) (g:Int):List Int:=((List.range g.toNat).filter fun(j:Nat)=>decide (bz L (j:Int)=1)).map Int.ofNat
def iu (L:List Obj) (g:Int):Prop:=0<=g/\g<=(ai L:Int)
def iq (L:List Obj):Prop:=L.length<=1000
def WX:kc:=QG (bc As gK) (fun x=>iq x.1) (fun _=>true) (fun _=>jJ) (fun _ n=> .sa n) fun x=> .arr (some tI) 1 (.it .i64 (dJ x.1 (bD (ai x.1))))
def aay:kc:=QG (bc sA gK) (fun x=>iq (Dx x.1)) (fun _=>true) (fun _=>jJ) (fun _ n=> .sa n) fun x=> .arr (some tI) 1 (.it .i64 (dJ (Dx x.1) (bD (ai (Dx x.1)))))
theorem F5 {L:List Obj} {i:Int} (h:(aL L i).kind=1):0<=i/\i<(L.length:Int)/\aL L i=aj L i.toNat free:=by
 by_cases hr:i<0\/(L.length:Int)<=i
 ·rw[O0 hr]at h;simp[free]at h
 ·exact⟨by omega,by omega,fF (by omega) (by omega)⟩
theorem oM {L:List Obj} {i:Int} (h:dP L i=true):0<=i/\i<(L.length:Int)/\aL L i=aj L i.toNat free/\(aj L i.toNat free).kind=1:=by
 have hk:=((uz _).1 h).1;obtain⟨a,b,c⟩:=F5 hk;rw[c]at hk;exact⟨a,b,c,hk⟩
theorem qs {L:List Obj} {i:Int}:(0<=bz L i↔dP L i=true)/\(bz L i<0↔dP L i=false):=by
 cases h:dP L i with
 |false=>rw[(tX h).1];simp
 |true=>
  have h2:=(mr h).1;have h3:=((uz _).1 h).2.2.1;rw[<-h2]at h3;simp;exact h3
theorem Ig {L:List Obj} {i:Int}:(dP L i&&decide (iC L i=1))=decide (bz L i=1):=by
 cases h:dP L i with
 |false=>rw[(tX h).1];simp
 |true=>rw[(mr h).1,(mr h).2];simp
theorem Zk {L:List Obj} {i:Int} (h:dP L i=true):iC L i=bz L i:=by rw[(mr h).1,(mr h).2]
theorem Ot {o:Obj} {n st:Int} (h:bP o n=true) (hk:o.kind=1):bP (Fx o st) n=true:=by
 have hn:=(dS.1 h).1;exact yZ h hk (T9 (by omega) (sg h hk) (rZ (by omega) _))
theorem OG {o:Obj} {n:Int} (h:bP o n=true) (hk:o.kind=1) (hc:o.calls<4294967295):bP (PR o) n=true:=by
 obtain⟨a1,a2,a3,a4,a5,a6,a7,a8,a9,a10,a11⟩:=dS.1 h;rw[dS];exact⟨a1,a2,a3,a4,a5,a6,by show 0<=o.calls+1;omega,by show o.calls+1<=4294967295;omega,.inl hk,a10,a11⟩
theorem Kv {o:Obj} {n:Int} {s:cL} {b:Bytes} (h:bP o n=true) (hk:o.kind=1) (hs:∀i,i<16->dC n (s.at i)):bP (jS (eo o s) b) n=true:=by
 have h':bP (eo o s) n=true:=yZ h hk hs;have hk':(eo o s).kind=1:=hk;exact N1 h' (Or.inl hk')
theorem Gj {o:Obj} {n:Int} {m:br} {a:Key} (h:bP o n=true) (hk:o.kind=1) (h0:dC n m.k0) (h1:dC n m.k1) (h2:dC n m.k2) (ha:dC n a):bP (yE o m a) n=true:=by
 have hn:=(dS.1 h).1
 have hs:∀i,i<16->dC n ((Bd o.slots m a).at i):=fun i hi=>by
  unfold Bd;rw[cL.fY _ _ _ _ (by omega),cL.fY _ _ _ _ (by omega),cL.fY _ _ _ _ (by omega),cL.fY _ _ _ _ (by omega),cL.fY _ _ _ _ (by omega),cL.fY _ _ _ _ (by omega)]
  split
  ·exact ha
  ·split
   ·exact h2
   ·split
    ·exact h1
    ·split
     ·exact h0
     ·split
      ·exact rZ (by omega) _
      ·split
       ·exact rZ (by omega) _
       ·exact sg h hk i hi
 have e:yE o m a=jS (eo o (Bd o.slots m a)) (BG m.data (bN m.data)):=by unfold yE jS eo;rfl
 rw[e];exact Kv h hk hs
theorem zo {n:Int} (hn:0<=n):dC n void:=⟨mV.1,by rw[mV.2];omega⟩
theorem QO {n i c d:Int} (h0:0<=i) (h1:i<n) (h2:n<=64) (c0:0<=c) (c1:c<=4294967295) (d0:0<=d) (d1:d<=4294967295):dC n ⟨7,i,c,d,0,0⟩:=by
 have hk:aV ⟨7,i,c,d,0,0⟩=true:=by
  unfold aV kx ee gM fX fq;simp;omega
 refine⟨hk,?_⟩;unfold bd;rw[hk];simp[ee];omega
theorem CT {L:List Obj} (hL:0<L.length) (m:br):dC (L.length:Int) (aH L m).k0/\dC (L.length:Int) (aH L m).k1/\dC (L.length:Int) (aH L m).k2:=⟨o7 hL _,o7 hL _,o7 hL _⟩
theorem M5 {s:ByteArray} (h:bN s<=32):Kn (fa.put 0 (UX (bN s))) (Int.toNat 1) (Int.toNat 64) s=BG s (bN s):=by
 have hz:(s.size:Int)<=32:=h;have e:Nat.min s.size (64-1)=s.size:=Nat.min_eq_left (by omega)
 show sS _ 1 (Nat.min s.size (64-1)) s=sS _ 1 (bN s).toNat s
 rw[e];rfl
theorem KF {L:List Obj} {i st:Int} (h:eu L i st=0):(0<=i/\i<(L.length:Int))/\aL L i=aj L i.toNat free/\(aj L i.toNat free).kind=1/\0<=st/\st<=2:=by
 unfold eu at h;split at h
 ·omega
 ·split at h
  ·omega
  ·split at h
   ·omega
   ·rename_i h1 h2 h3;have h2:(aL L i).kind=1:=by omega
    obtain⟨a,b,c⟩:=F5 h2;exact⟨⟨a,b⟩,c,by rw[<-c];exact h2,by omega,by omega⟩
theorem FM {L:List Obj} {i st:Int} (hL:ar L):ar (dc L i st):=by
 unfold dc;split
 ·rename_i h;obtain⟨⟨a,b⟩,c,d,_⟩:=KF h;rw[c];exact lH hL (Ot (dq hL _ (by omega)) d)
 ·exact hL
theorem GR {L:List Obj} {i st e:Int} (h:eu L i st=e) (he:e≠0):e=eu L i st/\L=dc L i st:=⟨h.symm,by unfold dc;rw[h,aa8 he]⟩
theorem U6 {L:List Obj} {i st:Int} (h:ai L=0):eu L i st=1:=by unfold eu;rw[aa9 h]
theorem Ib {L:List Obj} {i st:Int} (h:ai L≠0) (h2:¬(aL L i).kind=1):eu L i st=230:=by unfold eu;rw[aa8 h,aa9 h2]
theorem U9 {L:List Obj} {i st:Int} (h:ai L≠0) (h2:(aL L i).kind=1) (h3:st<0\/2<st):eu L i st=2:=by unfold eu;rw[aa8 h,aa8 (by omega),aa9 h3]
theorem P6 {L:List Obj} {i st:Int} (h:ai L≠0) (h2:(aL L i).kind=1) (h3:¬(st<0\/2<st)):eu L i st=0:=by unfold eu;rw[aa8 h,aa8 (by omega),aa8 h3]
theorem Lx {L:List Obj} {i st:Int} (hL:ar L) (h:eu L i st=0):fJ L i (Fx (aL L i) st)=0/\cN L i (Fx (aL L i) st)=dc L i st:=by
 obtain⟨⟨a,b⟩,c,d,_⟩:=KF h;obtain⟨p1,p2⟩:=lY a b (Ot (st:=st) (dq hL _ (by omega)) d)
 rw[c,p1,p2];refine⟨rfl,?_⟩;unfold dc;rw[aa9 h,c]
theorem sw {L:List Obj} {i:Int} (hL:ar L) (h0:0<=i) (h1:i<(L.length:Int)):dI L i:=⟨h0,h1,by have:=(gA hL).2;unfold ai;omega⟩
theorem Uo {L:List Obj} {i:Int} (h:(decide (i<0)||decide (bD (ai L)<=i)|| !decide ((aj L i.toNat free).kind=1))=true):¬(aL L i).kind=1:=fun hk=>by
 obtain⟨a,b,c⟩:=F5 hk;rw[c]at hk;have hb:¬bD (ai L)<=i:=by unfold bD ai;omega
 rw[decide_eq_false (by omega:¬i<0),decide_eq_false hb,decide_eq_true hk]at h
 simp at h
theorem DE {L:List Obj} {i:Int} (h:(decide (i<0)||decide (bD (ai L)<=i)|| !decide ((aj L i.toNat free).kind=1))=false):0<=i/\i<(L.length:Int)/\aL L i=aj L i.toNat free/\(aL L i).kind=1:=by
 simp only[Bool.or_eq_false_iff,decide_eq_false_iff_not,Bool.not_eq_false',aa3]at h;obtain⟨⟨h1,h2⟩,h3⟩:=h;unfold bD ai at h2;have e:=fF (L:=L) (j:=i) (by omega) (by omega)
 exact⟨by omega,by omega,e,by rw[e];exact h3⟩
theorem Df {L:List Obj} {m:br} (h:fj L m=true):bN m.data<=32:=by
 unfold fj at h;simp only[aa2,aa3]at h;exact h.1.1.1
section
variable {L:List Obj} {i:Int} {k:Key} {md:Int} {m:br}
theorem Xh (a:ai L=0):b7 L i k md m=1:=by unfold b7;rw[aa9 a]
theorem E1 (a:ai L≠0) (b:¬(1<=md/\md<=3)\/bJ L k=false\/fj L m=false):b7 L i k md m=2:=by unfold b7;rw[aa8 a,aa9 b]
theorem F4 (a:ai L≠0) (b:¬(¬(1<=md/\md<=3)\/bJ L k=false\/fj L m=false)) (c:bz L i≠1):b7 L i k md m=230:=by unfold b7;rw[aa8 a,aa8 b,aa9 c]
theorem Al (a:ai L≠0) (b:¬(¬(1<=md/\md<=3)\/bJ L k=false\/fj L m=false)) (c:bz L i=1) (d:aU L k=false\/¬(k.kind=6\/k.kind=7)\/bz L k.oid<0):b7 L i k md m=231:=by
 unfold b7;rw[aa8 a,aa8 b,aa8 (by omega),aa9 d]
theorem Ce (a:ai L≠0) (b:¬(¬(1<=md/\md<=3)\/bJ L k=false\/fj L m=false)) (c:bz L i=1) (d:¬(aU L k=false\/¬(k.kind=6\/k.kind=7)\/bz L k.oid<0))
  (e:(k.kind=6/\bz L k.oid≠0/\¬(md=3/\k.oid=i))\/(k.kind=7/\bz L k.oid≠2)):b7 L i k md m=232:=by
 unfold b7;rw[aa8 a,aa8 b,aa8 (by omega),aa8 d,aa9 e]
theorem B4 (a:ai L≠0) (b:¬(¬(1<=md/\md<=3)\/bJ L k=false\/fj L m=false)) (c:bz L i=1) (d:¬(aU L k=false\/¬(k.kind=6\/k.kind=7)\/bz L k.oid<0))
  (e:¬((k.kind=6/\bz L k.oid≠0/\¬(md=3/\k.oid=i))\/(k.kind=7/\bz L k.oid≠2))) (f:(k.kind=7/\4294967295<=(aj L k.oid.toNat free).calls)\/(md=1/\4294967295<=(aj L i.toNat free).calls)):b7 L i k md m=233:=by
 unfold b7;rw[aa8 a,aa8 b,aa8 (by omega),aa8 d,aa8 e,aa9 f]
theorem Z7 (a:ai L≠0) (b:¬(¬(1<=md/\md<=3)\/bJ L k=false\/fj L m=false)) (c:bz L i=1) (d:¬(aU L k=false\/¬(k.kind=6\/k.kind=7)\/bz L k.oid<0))
  (e:¬((k.kind=6/\bz L k.oid≠0/\¬(md=3/\k.oid=i))\/(k.kind=7/\bz L k.oid≠2))) (f:¬((k.kind=7/\4294967295<=(aj L k.oid.toNat free).calls)\/(md=1/\4294967295<=(aj L i.toNat free).calls))):b7 L i k md m=0:=by
 unfold b7;rw[aa8 a,aa8 b,aa8 (by omega),aa8 d,aa8 e,aa8 f]
theorem XF (h:b7 L i k md m=0):ai L≠0/\¬(¬(1<=md/\md<=3)\/bJ L k=false\/fj L m=false)/\bz L i=1/\¬(aU L k=false\/¬(k.kind=6\/k.kind=7)\/bz L k.oid<0)/\
  ¬((k.kind=6/\bz L k.oid≠0/\¬(md=3/\k.oid=i))\/(k.kind=7/\bz L k.oid≠2))/\¬((k.kind=7/\4294967295<=(aj L k.oid.toNat free).calls)\/(md=1/\4294967295<=(aj L i.toNat free).calls)):=by
 by_cases a:ai L=0
 ·rw[Xh a]at h;omega
 ·by_cases b:¬(1<=md/\md<=3)\/bJ L k=false\/fj L m=false
  ·rw[E1 a b]at h;omega
  ·by_cases c:bz L i=1
   ·by_cases d:aU L k=false\/¬(k.kind=6\/k.kind=7)\/bz L k.oid<0
    ·rw[Al a b c d]at h;omega
    ·by_cases e:(k.kind=6/\bz L k.oid≠0/\¬(md=3/\k.oid=i))\/(k.kind=7/\bz L k.oid≠2)
     ·rw[Ce a b c d e]at h;omega
     ·by_cases f:(k.kind=7/\4294967295<=(aj L k.oid.toNat free).calls)\/(md=1/\4294967295<=(aj L i.toNat free).calls)
      ·rw[B4 a b c d e f]at h;omega
      ·exact⟨a,b,c,d,e,f⟩
   ·rw[F4 a b c]at h;omega
theorem n7 {e:Int} (h:b7 L i k md m=e) (he:e≠0):e=b7 L i k md m/\L=fe L i k md m:=⟨h.symm,by unfold fe;rw[h,aa8 he]⟩
theorem uc {e:Int} (h:b7 L i k md m=e) (he:e≠0):lK L i k md m=false/\e=b7 L i k md m:=⟨by unfold lK;rw[h];simpa using he,h.symm⟩
theorem UU:(decide (md<1)||decide (3<md)|| !bJ L k|| !fj L m)=true↔(¬(1<=md/\md<=3)\/bJ L k=false\/fj L m=false):=by
 cases bJ L k<;>cases fj L m<;>simp<;>omega
theorem U0:(!aU L k|| !decide (k.kind=6)&& !decide (k.kind=7))=true↔(aU L k=false\/¬(k.kind=6\/k.kind=7)):=by
 cases aU L k<;>simp
theorem U5:(decide (k.kind=6)&& !decide (bz L k.oid=0)&& !(decide (md=3)&&decide (k.oid=i))||decide (k.kind=7)&& !decide (bz L k.oid=2))=true↔((k.kind=6/\bz L k.oid≠0/\¬(md=3/\k.oid=i))\/(k.kind=7/\bz L k.oid≠2)):=by
 simp[and_assoc,Classical.or_iff_not_imp_left (a:=¬md=3)]
theorem UN {x y:Int}:(decide (k.kind=7)&&decide (4294967295<=x)||decide (md=1)&&decide (4294967295<=y))=true↔((k.kind=7/\4294967295<=x)\/(md=1/\4294967295<=y)):=by simp
theorem FU (h:1<=md/\md<=3):0<=jR md/\jR md<=2/\aj [0,2,1,0] md.toNat 0=jR md/\zG (decide (md=1)) 2 (zG (decide (md=2)) 1 (zG (decide (md=3)) 0 0))=jR md:=by
 have:md=1\/md=2\/md=3:=by omega
 rcases this with rfl|rfl|rfl<;>decide
theorem zF (hL:ar L) (hE:b7 L i k md m=0):
 ((0<=i/\i<(L.length:Int))/\aL L i=aj L i.toNat free/\(aj L i.toNat free).kind=1)/\((0<=k.oid/\k.oid<(L.length:Int))/\aL L k.oid=aj L k.oid.toNat free/\(aj L k.oid.toNat free).kind=1)/\(eu L i (jR md)=0/\dc L i (jR md)=gJ L i md)/\(ar (gJ L i md)/\(gJ L i md).length=L.length)/\(ar (gY L i k md)/\(gY L i k md).length=L.length)/\((aj (gJ L i md) k.oid.toNat free).kind=1/\(aj (gJ L i md) k.oid.toNat free).calls=(aj L k.oid.toNat free).calls)/\(aj (gY L i k md) k.oid.toNat free).kind=1/\bN m.data<=32/\dC (L.length:Int) (iJ L i md):=by
 obtain⟨a,b,c,d,e,f⟩:=XF hE
 have b1:1<=md/\md<=3:=by
  by_cases h:1<=md/\md<=3
  ·exact h
  ·exact absurd (.inl h) b
 have b3:fj L m=true:=by
  cases h:fj L m with
  |true=>rfl
  |false=>exact absurd (.inr (.inr h)) b
 have d3:0<=bz L k.oid:=by
  by_cases h:bz L k.oid<0
  ·exact absurd (.inr (.inr h)) d
  ·omega
 obtain⟨i0,i1,i2,i3⟩:=oM (qs.1.1 (by omega:0<=bz L i))
 obtain⟨k0,k1,k2,k3⟩:=oM (qs.1.1 d3);obtain⟨n0,n1,_,_⟩:=FU b1;have hb:eu L i (jR md)=0:=P6 a (by rw[i2];exact i3) (by omega)
 have h1:dc L i (jR md)=gJ L i md:=by unfold dc gJ;rw[aa9 hb,i2]
 have o1:ar (gJ L i md):=by rw[<-h1];exact FM hL
 have l1:(gJ L i md).length=L.length:=by unfold gJ;rw[ib]
 have g1:(aj (gJ L i md) k.oid.toNat free).kind=1/\(aj (gJ L i md) k.oid.toNat free).calls=(aj L k.oid.toNat free).calls:=by
  unfold gJ;rw[gh (by omega)]
  split
  ·rename_i e;rw[e];exact⟨i3,rfl⟩
  ·exact⟨k3,rfl⟩
 have l2:(gY L i k md).length=L.length:=by
  unfold gY;split
  ·rw[ib,l1]
  ·exact l1
 have o2:ar (gY L i k md):=by
  unfold gY;split
  ·rename_i h7;have hc:¬4294967295<=(aj L k.oid.toNat free).calls:=fun h=>f (.inl ⟨h7,h⟩)
   exact lH o1 (OG (dq o1 _ (by rw[l1];omega)) g1.1 (by rw[g1.2];omega))
  ·exact o1
 have g2:(aj (gY L i k md) k.oid.toNat free).kind=1:=by
  unfold gY;split
  ·rw[gh (by rw[l1];omega),aa9 rfl];exact g1.1
  ·exact g1.1
 have ho:=dS.1 (dq hL i.toNat (by omega))
 have hn:=(gA hL)
 have hA:dC (L.length:Int) (iJ L i md):=by
  unfold iJ;split
  ·exact QO i0 i1 (by omega) ho.2.2.2.2.1 ho.2.2.2.2.2.1 ho.2.2.2.2.2.2.1 ho.2.2.2.2.2.2.2.1
  ·exact zo (by omega)
 exact⟨⟨⟨i0,i1⟩,i2,i3⟩,⟨⟨k0,k1⟩,k2,k3⟩,⟨hb,h1⟩,⟨o1,l1⟩,⟨o2,l2⟩,g1,g2,Df b3,hA⟩
theorem FQ (hL:ar L) (hE:b7 L i k md m=0):ar (fe L i k md m)/\(fe L i k md m).length=L.length/\cN (gY L i k md) k.oid (yE (aL (gY L i k md) k.oid) (aH L m) (iJ L i md))=fe L i k md m:=by
 obtain⟨_,⟨⟨k0,k1⟩,_,_⟩,_,_,⟨o2,l2⟩,_,g2,_,hA⟩:=zF hL hE;obtain⟨f0,f1,f2⟩:=CT (by have:=gA hL;omega:0<L.length) m
 have ho:=Gj (m:=aH L m) (a:=iJ L i md) (dq o2 k.oid.toNat (by omega)) g2 (by rw[l2];exact f0) (by rw[l2];exact f1) (by rw[l2];exact f2) (by rw[l2];exact hA)
 have hq:fe L i k md m=cA (gY L i k md) k.oid.toNat (yE (aj (gY L i k md) k.oid.toNat free) (aH L m) (iJ L i md)):=by unfold fe rC;rw[aa9 hE]
 rw[hq,fF k0 (by omega)]
 exact⟨lH o2 ho,by rw[ib,l2],(lY k0 (by omega) ho).1⟩
theorem Wj (hL:ar L):ar (fe L i k md m):=by
 by_cases hE:b7 L i k md m=0
 ·exact(FQ hL hE).1
 ·rw[<-(n7 rfl hE).2];exact hL
end
theorem wa (L:List Obj):dJ L 0= []:=rfl
theorem vU (L:List Obj) {g:Int} (h:0<=g):dJ L (g+1)=if bz L g=1 then jh (dJ L g) g else dJ L g:=by
 unfold dJ jh;rw[show(g+1).toNat=g.toNat+1 by omega,List.range_succ,List.filter_append,List.map_append]
 have e:((g.toNat:Nat):Int)=g:=by omega
 by_cases hp:bz L g=1
 ·rw[aa9 hp];simp[e,hp]
 ·rw[aa8 hp];simp[e,hp]
theorem E4 (L:List Obj) (g:Int):ai (dJ L g)<=g.toNat:=by
 unfold dJ ai;rw[List.length_map];exact Nat.le_trans (List.length_filter_le _ _) (by rw[List.length_range];exact Nat.le_refl _)
theorem DM {L:List Obj} {g:Int} (hl:iq L) (h1:g<(L.length:Int)):sT (ai (dJ L g)) 8:=by
 have:=E4 L g;unfold iq at hl;unfold sT maxLen;omega
theorem EN {L:List Obj} {g:Int} (hl:iq L) (h0:iu L g) (h1:g<(L.length:Int)):aF IntKind.i64 (g+1)/\iu L (g+1)/\(bD (ai L)-(g+1)).toNat<(bD (ai L)-g).toNat:=by
 unfold iq at hl;unfold iu bD ai at *;simp only[aF,bY];omega
end Go.Sx
namespace Go.Proofs.YtlblcfaclmpekaaGreat
open Go.Sx
theorem Rq (L:List Sx.Obj) (i:Int):
 ((!(decide (i<0)||decide (bD (ai L)<=i)))=true->0<=i/\i< ↑(ai L))/\((!(decide (i<0)||decide (bD (ai L)<=i)))=true->i.toNat<ai L)/\aba (decide (i<0)||decide (bD (ai L)<=i)|| !decide ((aj L i.toNat free).kind=1)) (-1=bz L i) ((0<=i/\i< ↑(ai L))/\i.toNat<ai L/\aba (!decide (((aj L i.toNat free).slots.at 2).kind=1)||decide (((aj L i.toNat free).slots.at 2).value<0)||decide (2<((aj L i.toNat free).slots.at 2).value)) (-1=bz L i) (((aj L i.toNat free).slots.at 2).value=bz L i)):=by
 delta aba
 have hn:bD (ai L)=(L.length:Int):=rfl;have hl:ai L=L.length:=rfl;rw[hn,hl]
 have hin:∀{b:Bool},(!(decide (i<0)||decide ((L.length:Int)<=i)))=true->0<=i/\i<(L.length:Int):=fun h=>by
  simp only[Bool.not_eq_true',Bool.or_eq_false_iff,decide_eq_false_iff_not]at h;omega
 refine⟨fun h=>hin (b:=true) h,fun h=>by have:=hin (b:=true) h;omega,fun h=>?_,fun h=>?_⟩
 ·simp only[Bool.or_eq_true,Bool.not_eq_true',aa3,decide_eq_false_iff_not]at h;refine(tX ?_).1.symm;unfold dP;cases hb:wR (aL L i)with
  |false=>rfl
  |true=>
   exfalso
   have hk:=((uz _).1 hb).1;by_cases hr:i<0\/(L.length:Int)<=i
   ·rw[O0 hr]at hk;simp[free]at hk
   ·rw[fF (by omega) (by omega)]at hk
    omega
 ·simp only[Bool.or_eq_false_iff,Bool.not_eq_false',aa3,decide_eq_false_iff_not]at h;have hr:0<=i/\i<(L.length:Int):=by omega
  have hg:aL L i=aj L i.toNat free:=fF hr.1 hr.2;have e:=yo (aj L i.toNat free);rw[show decide ((aj L i.toNat free).kind=1)=true from decide_eq_true h.2,Bool.not_true,Bool.false_or]at e;rw[e];refine⟨hr,by omega,fun h'=>?_,fun h'=>?_⟩
  ·exact(tX (by unfold dP;rw[hg];simpa using h')).1.symm
  ·rw[(mr (by unfold dP;rw[hg];simpa using h')).1,hg]
theorem vd:cq Tryz.prog 53 Yr:=
 eW (aA jb Vc) (fun _=>rfl) fun a hq hok=>by
  obtain⟨L,i,_⟩:=a;exact ba (inl:=bx) (ann:=aQ) aq (Rq L i) (by kernel_rfl)
theorem S9 (i:Int):
 true=true/\aba (!decide ((aL [] i).kind=1)|| !decide (((aL [] i).slots.at 2).kind=1)||decide (((aL [] i).slots.at 2).value<0)||decide (2<((aL [] i).slots.at 2).value)) (0=iC [] i/\false=dP [] i) (((aL [] i).slots.at 2).value=iC [] i/\true=dP [] i):=by
 delta aba
 have e:=yo (aL [] i);rw[e];refine⟨rfl,fun h=>?_,fun h=>?_⟩
 ·have h:dP [] i=false:=by unfold dP;simpa using h
  exact⟨(tX h).2.symm,h.symm⟩
 ·have h:dP [] i=true:=by unfold dP;simpa using h
  exact⟨(mr h).2.symm,h.symm⟩
theorem Wn (L:List Sx.Obj) (i:Int):
 true=true/\aba (!decide ((aL L i).kind=1)|| !decide (((aL L i).slots.at 2).kind=1)||decide (((aL L i).slots.at 2).value<0)||decide (2<((aL L i).slots.at 2).value)) (0=iC L i/\false=dP L i) (((aL L i).slots.at 2).value=iC L i/\true=dP L i):=by
 delta aba
 have e:=yo (aL L i);rw[e];refine⟨rfl,fun h=>?_,fun h=>?_⟩
 ·have h:dP L i=false:=by unfold dP;simpa using h
  exact⟨(tX h).2.symm,h.symm⟩
 ·have h:dP L i=true:=by unfold dP;simpa using h
  exact⟨(mr h).2.symm,h.symm⟩
theorem rf:cq Tryz.prog 62 Zg:=
 eW (aA s5 Vc) (fun _=>rfl) fun a hq hok=>by
  obtain⟨S,i,_⟩:=a;cases S with
  |none=>exact ba (inl:=(fun f=>f==88)) (ann:=aQ) (ae ga aq) (S9 i) (by kernel_rfl)
  |some L=>exact ba (inl:=(fun f=>f==88)) (ann:=aQ) (ae ga aq) (Wn L i) (by kernel_rfl)
theorem Ss (L:List Sx.Obj) (i st:Int) (hL:ar L):
 aba (decide (bD (ai L)=0)) (ko L i st=false/\1=eu L i st) (((!(decide (i<0)||decide (bD (ai L)<=i)))=true->0<=i/\i< ↑(ai L))/\((!(decide (i<0)||decide (bD (ai L)<=i)))=true->i.toNat<ai L)/\aba (decide (i<0)||decide (bD (ai L)<=i)|| !decide ((aj L i.toNat free).kind=1)) (ko L i st=false/\230=eu L i st) (aba (decide (st<0)||decide (2<st)) (ko L i st=false/\2=eu L i st) ((0<=i/\i< ↑(ai L))/\i.toNat<ai L/\true=true/\dI L i/\ko L i st=true/\0=eu L i st/\cA L i.toNat (Obj.mk (aj L i.toNat free).kind (aj L i.toNat free).count (aj L i.toNat free).calls ((aj L i.toNat free).slots.put 2 (abg st)) (aj L i.toNat free).bytes)=dc L i st))):=by
 delta aba abg
 have hn:bD (ai L)=(L.length:Int):=rfl;have hlL:ai L=L.length:=rfl
 have hin:(!(decide (i<0)||decide (bD (ai L)<=i)))=true->0<=i/\i<(L.length:Int):=fun h=>by
  rw[hn]at h;simp only[Bool.not_eq_true',Bool.or_eq_false_iff,decide_eq_false_iff_not]at h;omega
 refine⟨fun h=>?_,fun h=>⟨fun h=>hin h,fun h=>by have:=hin h;omega,fun h2=>?_,fun h2=>⟨fun h3=>?_,fun h3=>?_⟩⟩⟩
 ·have hl:ai L=0:=by have h1:bD (ai L)=0:=aa6 h;unfold bD at h1;omega
  unfold ko;rw[U6 hl];exact⟨rfl,rfl⟩
 ·have hl:ai L≠0:=by have h1:¬bD (ai L)=0:=aa5 h;unfold bD at h1;omega
  unfold ko;rw[Ib hl (Uo h2)];exact⟨rfl,rfl⟩
 ·have hl:ai L≠0:=by have h1:¬bD (ai L)=0:=aa5 h;unfold bD at h1;omega
  unfold ko;rw[U9 hl (DE h2).2.2.2 (by simpa using h3)];exact⟨rfl,rfl⟩
 ·have hl:ai L≠0:=by have h1:¬bD (ai L)=0:=aa5 h;unfold bD at h1;omega
  obtain⟨a,b,c,d⟩:=DE h2;have hE:=P6 (st:=st) hl d (by simpa using h3)
  refine⟨⟨a,b⟩,by omega,rfl,sw hL a b,by unfold ko;rw[hE];rfl,hE.symm,?_⟩
  unfold dc;rw[aa9 hE,c];rfl
theorem SY (L:List Sx.Obj) (i st:Int) (hL:ar L):an Tryz.prog 55 [.sa 0,.it .i64 i,.it .i64 st] [.ro (.arr none 163 (.ob L))] (xS (ko L i st) (dc L i st) [.it .i64 (eu L i st)]) (fun _ _=>False):=
 bj (inl:=(fun f=>f==31)) (ann:=aQ) (ae jz aq) aD (Ss L i st hL) (by kernel_rfl)
theorem Im:kL Tryz.prog 55 V3:=
 iM (m:=fun x=>YZ.cn x 0) (fL Qs (fun _=>rfl)) (fun _=>rfl) (fun _ _=>rfl) fun L x hq=>SY L x.1 x.2.1 hq
theorem SI (i st:Int):
 abb (aba (!decide (0<ak [])) (1=eu [] i st) (abb (aba (!decide ((aL [] i).kind=1)) (230=eu [] i st) (abb (aba (!(decide (0<=st)&&decide (st<=2))) (2=eu [] i st) (abb (abb (fJ [] i (Obj.mk (aL [] i).kind (aL [] i).count (aL [] i).calls ((aL [] i).slots.put 2 (abg st)) (aL [] i).bytes)=eu [] i st)))))))):=by
 delta aba abg abb
 exact⟨rfl,fun h=>rfl,fun h=>absurd h (by decide)⟩
theorem Sm (i st:Int):
 abb (aba (!decide (0<ak [])) (1=eu [] i st) (abb (aba (!decide ((aL [] i).kind=1)) (230=eu [] i st) (abb (aba (!(decide (0<=st)&&decide (st<=2))) (2=eu [] i st) (abb (abb False))))))):=by
 delta aba abb
 exact⟨rfl,fun h=>rfl,fun h=>absurd h (by decide)⟩
abbrev aby(L:List Sx.Obj)(i:Int)(st:Int):=Obj.mk (aL L i).kind (aL L i).count (aL L i).calls ((aL L i).slots.put 2 (abg st)) (aL L i).bytes
theorem XP (L:List Sx.Obj) (i st:Int) (hL:ar L):
 abb (aba (!decide (0<ak L)) (1=eu L i st/\L=dc L i st) (abb (aba (!decide ((aL L i).kind=1)) (230=eu L i st/\L=dc L i st) (abb (aba (!(decide (0<=st)&&decide (st<=2))) (2=eu L i st/\L=dc L i st) (abb (abb (fJ L i (aby L i st)=eu L i st/\cN L i (aby L i st)=dc L i st)))))))):=by
 delta aba abg aby abb
 have hq:∀b,(!decide (0<ak L))=b->(b=true->ai L=0)/\(b=false->ai L≠0):=fun b hb=>by
  subst hb;refine⟨fun h=>?_,fun h=>?_⟩
  ·have h1:¬0<ak L:=by simpa using h
   unfold ak at h1;omega
  ·have h1:0<ak L:=by simpa using h
   unfold ak at h1;omega
 refine⟨rfl,fun h=>GR (U6 ((hq _ h).1 rfl)) (by omega),fun h=>⟨rfl,fun h2=>?_,fun h2=>⟨rfl,fun h3=>?_,fun h3=>⟨rfl,rfl,?_⟩⟩⟩⟩
 ·exact GR (Ib ((hq _ h).2 rfl) (by simpa using h2)) (by omega)
 ·exact GR (U9 ((hq _ h).2 rfl) (by simpa using h2) (by simp only[Bool.not_eq_true',Bool.and_eq_false_iff,decide_eq_false_iff_not]at h3;omega)) (by omega)
 ·have hE:eu L i st=0:=P6 ((hq _ h).2 rfl) (by simpa using h2) (by simp only[Bool.not_eq_false',aa2,aa3]at h3;omega)
  rw[hE];exact Lx hL hE
theorem VB (L:List Sx.Obj) (i st:Int) (hL:ar L):an Tryz.prog 64 [.lp 0 0,.it .i64 i,.it .i64 st] [.store tS eS L] (B8 (.it .i64 (eu L i st)) (dc L i st)) (fun _ _=>False):=
 aY (inl:=(fun f=>f==91||f==98)) (ann:=aQ) (ae bC (ae ga aq)) (aB dz aD) (eh lG) (XP L i st hL) (by kernel_rfl)
theorem Qj:kL Tryz.prog 64 Z8:=
 nK (m:=fun x=>YZ.cn x 0) (fL Qs (fun _=>rfl)) (fun _=>rfl) (fun _ _=>rfl) (fun x=>aY (inl:=(fun f=>f==91||f==98)) (ann:=aQ) (ae bC (ae ga aq)) (aB dz aD) (eh lG) (SI x.1 x.2.1) (by kernel_rfl)) (fun x=>aY (inl:=(fun f=>f==91||f==98)) (ann:=aQ) (ae bC (ae ga aq)) (aB dz aD) (eh lG) (Sm x.1 x.2.1) (by kernel_rfl)) fun L x hL _ _=>VB L x.1 x.2.1 hL
abbrev abz(nid:Nat):=V.tp [V.sa nid,V.ci IntKind.i64 0]
theorem MP (L:List Sx.Obj) (i st:Int) (hz:Iu L i st):
 aba (decide (bD (ai L)=0)) (abb (∀(nid:Nat),some (V.tp [V.sa nid,V.ci IntKind.i64 1])=some (abz nid)/\none=some [aK.arr (some tO) 163 (TL.ob (dc L i st))])) (((!(decide (i<0)||decide (bD (ai L)<=i)))=true->0<=i/\i< ↑(ai L))/\((!(decide (i<0)||decide (bD (ai L)<=i)))=true->i.toNat<ai L)/\aba (decide (i<0)||decide (bD (ai L)<=i)|| !decide ((aj L i.toNat free).kind=1)) (abb (∀(nid:Nat),some (V.tp [V.sa nid,V.ci IntKind.i64 230])=some (abz nid)/\none=some [aK.arr (some tO) 163 (TL.ob (dc L i st))])) (aba (decide (st<0)||decide (2<st)) (abb (∀(nid:Nat),some (V.tp [V.sa nid,V.ci IntKind.i64 2])=some (abz nid)/\none=some [aK.arr (some tO) 163 (TL.ob (dc L i st))])) ((0<=i/\i< ↑(ai L))/\i.toNat<ai L/\abb (dI L i/\abb (∀(nid:Nat),some (abz nid)=some (abz nid)/\some [aK.arr (some tO) 163 (TL.ob (cA L i.toNat (Obj.mk (aj L i.toNat free).kind (aj L i.toNat free).count (aj L i.toNat free).calls ((aj L i.toNat free).slots.put 2 (abg st)) (aj L i.toNat free).bytes)))]=some [aK.arr (some tO) 163 (TL.ob (dc L i st))]))))):=by
 delta aba abg abz abb
 obtain⟨hE,hL⟩:=hz;obtain⟨⟨a,b⟩,c,d,s0,s1⟩:=KF hE;have hl:ai L≠0:=by unfold ai;omega
 have hn:bD (ai L)=(L.length:Int):=rfl;have hlL:ai L=L.length:=rfl;rw[decide_eq_false (by unfold bD;omega:¬bD (ai L)=0),decide_eq_false (by omega:¬i<0),decide_eq_false (by rw[hn];omega:¬bD (ai L)<=i),decide_eq_true d,decide_eq_false (by omega:¬st<0),decide_eq_false (by omega:¬2<st)]
 refine⟨fun h=>by simp at h,fun _=>⟨fun _=>⟨a,b⟩,fun _=>by omega,fun h=>by simp at h,fun _=>⟨fun h=>by simp at h,fun _=>⟨⟨a,b⟩,by omega,rfl,sw hL a b,rfl,fun nid=>⟨rfl,?_⟩⟩⟩⟩⟩
 unfold dc;rw[aa9 hE,c];rfl
theorem KZ (L:List Sx.Obj) (i st:Int) (hz:Iu L i st):an Tryz.prog 55 [.sa 0,.it .i64 i,.it .i64 st] [.ro (.arr none 163 (.ob L))] (Dd true jJ (fun n=> .tp [.sa n,.ci .i64 0]) (.arr (some tO) 163 (.ob (dc L i st)))) (fun _ _=>False):=
 bj (inl:=(fun f=>f==31)) (ann:=aQ) (ae jz aq) aD (MP L i st hz) (by kernel_rfl)
theorem MK:kL Tryz.prog 55 SH:=
 Ac XB (fun _=>rfl) (fun _=>by simp) fun a hq hok=>by
  obtain⟨L,i,st,_⟩:=a;exact KZ L i st hq
theorem UC (L:List Sx.Obj) (m:br) (hs:aw m.data):
 aF IntKind.i64 (bN m.data)/\(decide (bN m.data<=32)&&bJ L m.k0&&bJ L m.k1&&bJ L m.k2)=fj L m:=by
 have hsz:aF IntKind.i64 (bN m.data):=by unfold aw at hs;simp only[aF,bY,bN];omega
 exact⟨hsz,rfl⟩
theorem C9:cq Tryz.prog 74 V9:=
 eW (aA jb (aA zN bV)) (fun _=>rfl) fun a hq hok=>by
  obtain⟨L,m,_⟩:=a;exact ba (inl:=bx) (ann:=(iv [(74,3,MO 4)])) (ae zy aq) (UC L m hq) (by kernel_rfl)
theorem Ul (L:List Sx.Obj) (m:br):
 m.code=(aH L m).code/\m.data=(aH L m).data/\ah L m.k0=(aH L m).k0/\ah L m.k1=(aH L m).k1/\ah L m.k2=(aH L m).k2:=by
 exact⟨rfl,rfl,rfl,rfl,rfl⟩
theorem De:cq Tryz.prog 75 Ww:=
 eW (aA jb (aA zN bV)) (fun _=>rfl) fun a hq hok=>by
  obtain⟨L,m,_⟩:=a;exact ba (inl:=bx) (ann:=(iv [(75,2,MO 4)])) (ae ph aq) (Ul L m) (by kernel_rfl)
theorem Kx (L:List Sx.Obj) (i:Int) (m:br) (k:Key) (hz:Bb L i m):
 (0<=i/\i< ↑(ai L))/\i.toNat<ai L/\abb (abb (abd (bN m.data)/\aF IntKind.u8 (bN m.data)/\(∃g,qN m.data g/\i=i/\Value.slice none 0 0=Value.slice none 0 0/\0=g/\L=L/\m.code=m.code/\m.data=m.data/\m.k0=m.k0/\m.k1=m.k1/\m.k2=m.k2/\k=k/\Obj.mk (aj L i.toNat free).kind (aj L i.toNat free).count (aj L i.toNat free).calls (((((((aj L i.toNat free).slots.put 2 (abg 1)).put 3 (abg m.code)).put 12 m.k0).put 13 m.k1).put 14 m.k2).put 15 k) (fa.put 0 (UX (bN m.data)))=ri L i m k g/\abg 1=abg 1/\abg m.code=abg m.code)/\∀(g:Int),qN m.data g->abd (bN m.data)/\aba (decide (g<bN m.data)) (abd (1+g)/\pSz m.data g/\(0<=1+g/\1+g< ↑64)/\abd (g+1)/\∃g',qN m.data g'/\xm m.data g'<xm m.data g/\i=i/\Value.slice none 0 0=Value.slice none 0 0/\g+1=g'/\L=L/\m.code=m.code/\m.data=m.data/\m.k0=m.k0/\m.k1=m.k1/\m.k2=m.k2/\k=k/\Obj.mk (ri L i m k g).kind (ri L i m k g).count (ri L i m k g).calls (ri L i m k g).slots ((ri L i m k g).bytes.put (1+g).toNat (sat m.data g.toNat))=ri L i m k g'/\abg 1=abg 1/\abg m.code=abg m.code) (dI L i/\abb (∀(nid:Nat),some (V.sa nid)=some (V.sa nid)/\some [aK.arr (some tO) 163 (TL.ob (cA L i.toNat (ri L i m k g)))]=some [aK.arr (some tO) 163 (TL.ob (rC L i m k))])))):=by
 delta aba abg abd abb
 obtain⟨hp,⟨i0,i1⟩,hs⟩:=hz;have i1':i.toNat<ai L:=by omega
 have hsz:aF IntKind.i64 (bN m.data):=by simp only[aF,bY,bN]at *;omega
 have hs8:aF IntKind.u8 (bN m.data):=by simp only[aF,bY,bN]at *;omega
 have hz:(m.data.size:Int)<=32:=hs;simp only[kr,jr,mD,hU,decide_true,Bool.and_true,Bool.not_true,Bool.or_false,Bool.not_false,Bool.false_eq_true,Bool.true_eq_false,false_implies,implies_true,true_implies,true_and,and_true,and_self];refine⟨⟨i0,i1⟩,i1',hsz,hs8,⟨0,⟨by omega,by omega⟩,rfl,?_⟩,fun g hg=>⟨hsz,fun hlt=>?_,fun hge=>?_⟩⟩
 ·unfold ri Bd BG;rw[show(0:Int).toNat=0 from rfl,AG];rfl
 ·obtain⟨g0,g1⟩:=hg;have hlt:g<(m.data.size:Int):=aa6 hlt;refine⟨by simp only[aF,bY];omega,⟨g0,hlt⟩,⟨by omega,by omega⟩,by simp only[aF,bY];omega,g+1,⟨by omega,by omega⟩,by unfold xm;omega,rfl,?_⟩
  have e:=BH (fa.put 0 (UInt8.ofNat m.data.size)) 1 g.toNat m.data (by omega)
  unfold ri BG;simp only;rw[show(1+g).toNat=1+g.toNat by omega,e,show(g+1).toNat=g.toNat+1 by omega]
 ·obtain⟨g0,g1⟩:=hg;have hge:¬g<(m.data.size:Int):=aa5 hge;have:g=bN m.data:=by unfold bN;omega
  subst this;exact⟨hp,fun nid=>rfl⟩
theorem Qo (L:List Sx.Obj) (i:Int) (m:br) (k:Key) (hz:Bb L i m):an Tryz.prog 77 [.sa 0,.it .i64 i,jG m,.key k] [.ro (.arr none 163 (.ob L))] (Dd true jJ (fun n=> .sa n) (.arr (some tO) 163 (.ob (rC L i m k)))) (fun _ _=>False):=
 bj (inl:=(fun f=>f==31)) (ann:=(iv [(77,7,YK [0,1,6,7,8,9] (fun g=> [(10,.it .i64 g)]) 9 (fun g=> .blk tO (.ob (ri L i m k g))) (qN m.data) (xm m.data))])) (ae jz aq) aD (Kx L i m k hz) (by kernel_rfl)
theorem DL:kL Tryz.prog 77 SK:=
 Ac Xd (fun _=>rfl) (fun _=>by simp) fun a hq hok=>by
  obtain⟨L,i,m,k,_⟩:=a;exact Qo L i m k hq
theorem Uf (L:List Sx.Obj) (i:Int) (k:Key) (md:Int) (m:br) (hL:ar L) (hs:aw m.data):
 aba (decide (bD (ai L)=0)) (lK L i k md m=false/\1=b7 L i k md m) (((!(decide (md<1)||decide (3<md)|| !bJ L k))=true->aw m.data)/\aba (decide (md<1)||decide (3<md)|| !bJ L k|| !fj L m) (lK L i k md m=false/\2=b7 L i k md m) (aba (!decide (bz L i=1)) (lK L i k md m=false/\230=b7 L i k md m) (aba (!aU L k|| !decide (k.kind=6)&& !decide (k.kind=7)) (lK L i k md m=false/\231=b7 L i k md m) (aba (decide (bz L k.oid<0)) (lK L i k md m=false/\231=b7 L i k md m) (aba (decide (k.kind=6)&& !decide (bz L k.oid=0)&& !(decide (md=3)&&decide (k.oid=i))||decide (k.kind=7)&& !decide (bz L k.oid=2)) (lK L i k md m=false/\232=b7 L i k md m) ((decide (k.kind=7)=true->0<=k.oid/\k.oid< ↑(ai L))/\(decide (k.kind=7)=true->k.oid.toNat<ai L)/\((decide (md=1)&& !(decide (k.kind=7)&&decide (4294967295<=(aj L k.oid.toNat free).calls)))=true->0<=i/\i< ↑(ai L))/\((decide (md=1)&& !(decide (k.kind=7)&&decide (4294967295<=(aj L k.oid.toNat free).calls)))=true->i.toNat<ai L)/\aba (decide (k.kind=7)&&decide (4294967295<=(aj L k.oid.toNat free).calls)||decide (md=1)&&decide (4294967295<=(aj L i.toNat free).calls)) (lK L i k md m=false/\233=b7 L i k md m) ((aba (decide (md=1)) ((0<=i/\i< ↑(ai L))/\i.toNat<ai L/\(0<=i/\i< ↑(ai L))/\i.toNat<ai L/\∃g:Unit,nP L i k md m/\i=i/\md=md/\Value.slice none 0 0=Value.slice none 0 0/\k.kind=k.kind/\L=L/\k=k/\(aH L m).code=(aH L m).code/\(aH L m).data=(aH L m).data/\(aH L m).k0=(aH L m).k0/\(aH L m).k1=(aH L m).k1/\(aH L m).k2=(aH L m).k2/\Key.mk 7 i (aj L i.toNat free).count (aj L i.toNat free).calls void.rights void.value=iJ L i md) (∃g:Unit,nP L i k md m/\i=i/\md=md/\Value.slice none 0 0=Value.slice none 0 0/\k.kind=k.kind/\L=L/\k=k/\(aH L m).code=(aH L m).code/\(aH L m).data=(aH L m).data/\(aH L m).k0=(aH L m).k0/\(aH L m).k1=(aH L m).k1/\(aH L m).k2=(aH L m).k2/\void=iJ L i md))/\∀(g:Unit),nP L i k md m->(0<=md/\md< ↑4)/\abb (Iu L i (aj [0,2,1,0] md.toNat 0)/\(true=false->False)/\(true=true->aba (decide (k.kind=7)) ((0<=k.oid/\k.oid< ↑(ai (dc L i (aj [0,2,1,0] md.toNat 0))))/\k.oid.toNat<ai (dc L i (aj [0,2,1,0] md.toNat 0))/\aF IntKind.i64 ((aj (dc L i (aj [0,2,1,0] md.toNat 0)) k.oid.toNat free).calls+1)/\dI (dc L i (aj [0,2,1,0] md.toNat 0)) k.oid/\abb (Bb (cA (dc L i (aj [0,2,1,0] md.toNat 0)) k.oid.toNat (Obj.mk (aj (dc L i (aj [0,2,1,0] md.toNat 0)) k.oid.toNat free).kind (aj (dc L i (aj [0,2,1,0] md.toNat 0)) k.oid.toNat free).count ((aj (dc L i (aj [0,2,1,0] md.toNat 0)) k.oid.toNat free).calls+1) (aj (dc L i (aj [0,2,1,0] md.toNat 0)) k.oid.toNat free).slots (aj (dc L i (aj [0,2,1,0] md.toNat 0)) k.oid.toNat free).bytes)) k.oid (aH L m)/\(true=false->False)/\(true=true->lK L i k md m=true/\0=b7 L i k md m/\rC (cA (dc L i (aj [0,2,1,0] md.toNat 0)) k.oid.toNat (Obj.mk (aj (dc L i (aj [0,2,1,0] md.toNat 0)) k.oid.toNat free).kind (aj (dc L i (aj [0,2,1,0] md.toNat 0)) k.oid.toNat free).count ((aj (dc L i (aj [0,2,1,0] md.toNat 0)) k.oid.toNat free).calls+1) (aj (dc L i (aj [0,2,1,0] md.toNat 0)) k.oid.toNat free).slots (aj (dc L i (aj [0,2,1,0] md.toNat 0)) k.oid.toNat free).bytes)) k.oid (aH L m) (iJ L i md)=fe L i k md m))) (abb (Bb (dc L i (aj [0,2,1,0] md.toNat 0)) k.oid (aH L m)/\(true=false->False)/\(true=true->lK L i k md m=true/\0=b7 L i k md m/\rC (dc L i (aj [0,2,1,0] md.toNat 0)) k.oid (aH L m) (iJ L i md)=fe L i k md m)))))))))))):=by
 delta aba abb
 simp only[kr,jr,mD,hU,decide_true,Bool.and_true,Bool.not_true,Bool.or_false,Bool.not_false,Bool.false_eq_true,Bool.true_eq_false,false_implies,implies_true,true_implies,true_and,and_true,and_self];refine⟨fun h=>?_,fun h=>⟨fun _=>hs,fun h2=>?_,fun h2=>⟨fun h3=>?_,fun h3=>⟨fun h4=>?_,fun h4=>⟨fun h5=>?_,fun h5=>⟨fun h6=>?_,fun h6=>?_⟩⟩⟩⟩⟩⟩
 ·have hl:ai L=0:=by have h1:bD (ai L)=0:=aa6 h;unfold bD at h1;omega
  exact uc (Xh hl) (by omega)
 all_goals
  have hl:ai L≠0:=by have h1:¬bD (ai L)=0:=aa5 h;unfold bD at h1;omega
 ·exact uc (E1 hl (UU.1 h2)) (by omega)
 all_goals
  have b:¬(¬(1<=md/\md<=3)\/bJ L k=false\/fj L m=false):=fun hh=>by rw[UU.2 hh]at h2;simp at h2
 ·exact uc (F4 hl b (by simpa using h3)) (by omega)
 all_goals
  have c:bz L i=1:=by simpa using h3
 ·exact uc (Al hl b c ((U0.1 h4).imp id .inl)) (by omega)
 all_goals
  have d1:¬(aU L k=false\/¬(k.kind=6\/k.kind=7)):=fun hh=>by rw[U0.2 hh]at h4;simp at h4
 ·exact uc (Al hl b c (.inr (.inr (aa6 h5)))) (by omega)
 all_goals
  have d:¬(aU L k=false\/¬(k.kind=6\/k.kind=7)\/bz L k.oid<0):=by
   rintro(h|h|h)
   ·exact d1 (.inl h)
   ·exact d1 (.inr h)
   ·exact aa5 h5 h
 ·exact uc (Ce hl b c d (U5.1 h6)) (by omega)
 have e:¬((k.kind=6/\bz L k.oid≠0/\¬(md=3/\k.oid=i))\/(k.kind=7/\bz L k.oid≠2)):=fun hh=>by rw[U5.2 hh]at h6;simp at h6
 have b1:1<=md/\md<=3:=by
  by_cases h:1<=md/\md<=3
  ·exact h
  ·exact absurd (.inl h) b
 have d3:0<=bz L k.oid:=by
  by_cases h:bz L k.oid<0
  ·exact absurd (.inr (.inr h)) d
  ·omega
 obtain⟨i0,i1,i2,i3⟩:=oM (qs.1.1 (by omega:0<=bz L i))
 obtain⟨k0,k1,k2,k3⟩:=oM (qs.1.1 d3);have hlL:ai L=L.length:=rfl;have hk:(0<=k.oid/\k.oid<(ai L:Int))/\k.oid.toNat<ai L:=by omega
 have hi:(0<=i/\i<(ai L:Int))/\i.toNat<ai L:=by omega
 refine⟨fun _=>hk.1,fun _=>hk.2,fun _=>hi.1,fun _=>hi.2,fun h7=>uc (B4 hl b c d e (UN.1 h7)) (by omega),fun h7=>?_⟩
 have hE:b7 L i k md m=0:=Z7 hl b c d e fun hh=>by rw[UN.2 hh]at h7;simp at h7
 obtain⟨_,_,⟨hb,hb1⟩,⟨o1,l1⟩,⟨o2,l2⟩,⟨g1,g1c⟩,g2,hsz,hA⟩:=zF hL hE;obtain⟨n0,n1,n2,n3⟩:=FU b1;obtain⟨_,_,hend⟩:=FQ hL hE;have hC:lK L i k md m=true:=by unfold lK;rw[hE];rfl
 have hq:fe L i k md m=rC (gY L i k md) k.oid (aH L m) (iJ L i md):=by unfold fe;rw[aa9 hE]
 rw[n2,hb1,hC,hE,hq];have hl1:ai (gJ L i md)=L.length:=l1;have hl2:ai (gY L i k md)=L.length:=l2;refine⟨⟨fun h1=>⟨hi.1,hi.2,hi.1,hi.2,⟨⟩,hE,?_⟩,fun h1=>⟨⟨⟩,hE,?_⟩⟩,fun _ _=>⟨by omega,⟨hb,hL⟩,fun h7=>?_,fun h7=>?_⟩⟩
 ·unfold iJ;rw[aa9 (aa6 h1)];rfl
 ·unfold iJ;rw[aa8 (aa5 h1)]
 ·have h7':=aa6 h7;have hc:gY L i k md=cA (gJ L i md) k.oid.toNat (PR (aj (gJ L i md) k.oid.toNat free)):=by unfold gY;rw[aa9 h7']
  have ho:=dS.1 (dq o1 k.oid.toNat (by omega))
  refine⟨by omega,by omega,by have:=ho.2.2.2.2.2.2.1;have:=ho.2.2.2.2.2.2.2.1;simp only[aF,bY];omega,sw o1 k0 (by omega),?_,?_⟩
  ·have:=sw o2 k0 (by omega)
   rw[hc]at this;exact⟨this,⟨k0,by rw[show∀x,ai (cA (gJ L i md) k.oid.toNat x)=L.length from fun x=>by unfold ai;rw[ib,l1]];omega⟩,hsz⟩
  ·rw[hc];exact⟨rfl,rfl,rfl⟩
 ·have h7':=aa5 h7;have hc:gY L i k md=gJ L i md:=by unfold gY;rw[aa8 h7']
  rw[hc]at *;exact⟨⟨sw o1 k0 (by omega),by omega,hsz⟩,rfl,rfl,rfl⟩
theorem TI (L:List Sx.Obj) (i:Int) (k:Key) (md:Int) (m:br) (hL:ar L) (hs:aw m.data):an Tryz.prog 51 [.sa 0,.it .i64 i,.key k,.it .i64 md,jG m] [.ro (.arr none 163 (.ob L))] (xS (lK L i k md m) (fe L i k md m) [.it .i64 (b7 L i k md m)]) (fun _ _=>False):=
 bj (inl:=bx) (ann:=(iv [(51,2000021,QJ [0,1,3,7,9,10,11,12,14] (fun(_:Unit)=> []) (fun _=> [(14,.blk tK (.key (iJ L i md)))]) (fun _=> []) (fun _=>nP L i k md m))])) (ae zy (ae C9 (ae De (ae vd (ae me (ae jz aq)))))) (aB MK (aB DL aD)) (Uf L i k md m hL hs) (by kernel_rfl)
theorem R0:kL Tryz.prog 51 XD:=
 iM (m:=fun x=>ZM.cn x 0) (fL Ok (fun _=>rfl)) (fun _=>rfl) (fun _ _=>rfl) fun L x hq=>TI L x.1 x.2.1 x.2.2.1 x.2.2.2.1 hq.1 hq.2
theorem Ub (L:List Sx.Obj) (i:Int) (m:br) (hL:ar L) (hs:aw m.data):
 aba (decide (bD (ai L)=0)) (pf L i m=false/\1=gd L i m) (aw m.data/\aba (!fj L m) (pf L i m=false/\2=gd L i m) (aba (!decide (bz L i=1)) (pf L i m=false/\230=gd L i m) (true=true/\Bb L i (aH L m)/\(true=false->False)/\(true=true->pf L i m=true/\0=gd L i m/\rC L i (aH L m) void=gw L i m)))):=by
 delta aba
 have no:∀e,gd L i m=e->e≠0->pf L i m=false/\e=gd L i m:=fun e h he=>⟨by unfold pf;rw[h];simpa using he,h.symm⟩
 simp only[kr,jr,mD,hU,decide_true,Bool.and_true,Bool.not_true,Bool.or_false,Bool.not_false,Bool.false_eq_true,Bool.true_eq_false,false_implies,implies_true,true_implies,true_and,and_true,and_self];refine⟨fun h=>no _ ?_ (by omega),fun h=>⟨hs,fun h2=>no _ ?_ (by omega),fun h2=>⟨fun h3=>no _ ?_ (by omega),fun h3=>?_⟩⟩⟩
 ·have hl:ai L=0:=by have h1:bD (ai L)=0:=aa6 h;unfold bD at h1;omega
  unfold gd;rw[aa9 hl]
 ·have hl:ai L≠0:=by have h1:¬bD (ai L)=0:=aa5 h;unfold bD at h1;omega
  unfold gd;rw[aa8 hl,aa9 (by simpa using h2)]
 ·have hl:ai L≠0:=by have h1:¬bD (ai L)=0:=aa5 h;unfold bD at h1;omega
  unfold gd;rw[aa8 hl,aa8 (by simpa using h2),aa9 (by simpa using h3)]
 ·have hl:ai L≠0:=by have h1:¬bD (ai L)=0:=aa5 h;unfold bD at h1;omega
  have h2':fj L m=true:=by simpa using h2
  have h3':bz L i=1:=by simpa using h3
  have hE:gd L i m=0:=by unfold gd;rw[aa8 hl,aa8 (by simpa using h2'),aa8 (by simpa using h3')]
  obtain⟨a,b,c,d⟩:=oM (qs.1.1 (by omega:0<=bz L i))
  refine⟨⟨sw hL a b,⟨a,b⟩,(Df h2':bN m.data<=32)⟩,by unfold pf;rw[hE];rfl,hE.symm,?_⟩
  unfold gw;rw[aa9 hE]
theorem TZ (L:List Sx.Obj) (i:Int) (m:br) (hL:ar L) (hs:aw m.data):an Tryz.prog 54 [.sa 0,.it .i64 i,jG m] [.ro (.arr none 163 (.ob L))] (xS (pf L i m) (gw L i m) [.it .i64 (gd L i m)]) (fun _ _=>False):=
 bj (inl:=bx) (ann:=aQ) (ae C9 (ae De (ae vd aq))) (aB DL aD) (Ub L i m hL hs) (by kernel_rfl)
theorem RQ:kL Tryz.prog 54 Xx:=
 iM (m:=fun x=>ZI.cn x 0) (fL KB (fun _=>rfl)) (fun _=>rfl) (fun _ _=>rfl) fun L x hq=>TZ L x.1 x.2.1 hq.1 hq.2
theorem I8:
 ∀(nid:Nat),some (V.mp nid)=some (V.mp nid)/\some [aK.mp IntKind.i64 [6,7] [V.fn 126 [],V.fn 127 []]]=some [aK.mp IntKind.i64
  [6,7] [V.fn 126 [],V.fn 127 []]]:=by
 exact fun nid=>⟨rfl,rfl⟩
theorem wh:cq Tryz.prog 95 (A8 kdX kdN):=u5 (π:= [0]) (by decide) (fun _=>rfl) (bj (inl:=bx) (ann:=aQ) aq aD I8 (by kernel_rfl))
theorem sb:cq Tryz.prog 36 F3:=Te bC
theorem R6 (i:Int) (m:br) (hs:aw m.data):
 true=true/\1=gd [] i m:=by
 exact⟨rfl,rfl⟩
theorem RO (i:Int) (m:br) (hs:aw m.data):
 true=true/\1=gd [] i m:=by
 exact⟨rfl,rfl⟩
theorem W6 (L:List Sx.Obj) (i:Int) (m:br) (hL:ar L) (hs:aw m.data):
 abb (aba (!decide (0<ak L)) (1=gd L i m/\L=gw L i m) (abb (abd (bN m.data)/\abb (aba (!decide (bN m.data<=32)) (2=gd L i m/\L=gw L i m) (abb (abb (aba (!(decide (bw m.k0=0)&&(!aZ m.k0||decide (cw m.k0<ak L)))) (2=gd L i m/\L=gw L i m) (abb (abb (aba (!(decide (bw m.k1=0)&&(!aZ m.k1||decide (cw m.k1<ak L)))) (2=gd L i m/\L=gw L i m) (abb (abb (aba (!(decide (bw m.k2=0)&&(!aZ m.k2||decide (cw m.k2<ak L)))) (2=gd L i m/\L=gw L i m) (abb (aba (!(dP L i&&decide (iC L i=1))) (230=gd L i m/\L=gw L i m) (abb (abb (abb (abb (abb (abd (bN m.data)/\aF IntKind.u8 (bN m.data)/\Cr 1 64 64/\abb (0=gd L i m/\cN L i (Obj.mk (aL L i).kind (aL L i).count (aL L i).calls (((((((aL L i).slots.put 2 (abg 1)).put 3 (abg m.code)).put 12 (ah L m.k0)).put 13 (ah L m.k1)).put 14 (ah L m.k2)).put 15 void) (Kn (fa.put 0 (UX (bN m.data))) (Int.toNat 1) (Int.toNat 64) m.data))=gw L i m)))))))))))))))))))))):=by
 delta aba abg abd abb
 have no:∀e,gd L i m=e->e≠0->e=gd L i m/\L=gw L i m:=fun e h he=>⟨h.symm,by unfold gw;rw[h,aa8 he]⟩
 have hq1:(!decide (0<ak L))=true->ai L=0:=fun h=>by
  have h1:¬0<ak L:=by simpa using h
  unfold ak at h1;omega
 have hq0:(!decide (0<ak L))=false->ai L≠0:=fun h=>by
  have h1:0<ak L:=by simpa using h
  unfold ak at h1;omega
 have hsz:aF IntKind.i64 (bN m.data):=by unfold aw at hs;simp only[aF,bY,bN];omega
 have hs8:bN m.data<=32->aF IntKind.u8 (bN m.data):=fun h=>by simp only[aF,bY,bN]at *;omega
 simp only[vu,Ig];simp only[kr,jr,mD,hU,decide_true,Bool.and_true,Bool.not_true,Bool.or_false,Bool.not_false,Bool.false_eq_true,Bool.true_eq_false,false_implies,implies_true,true_implies,true_and,and_true,and_self];have mk:fj L m=(decide (bN m.data<=32)&&bJ L m.k0&&bJ L m.k1&&bJ L m.k2):=rfl
 have bad:ai L≠0->fj L m=false->2=gd L i m/\L=gw L i m:=fun h hm=>no _ (by unfold gd;rw[aa8 h,aa9 hm]) (by omega)
 refine⟨fun h=>no _ (by unfold gd;rw[aa9 (hq1 h)]) (by omega),fun h=>⟨hsz,fun g1=>bad (hq0 h) ?_,fun g1=>⟨fun g2=>bad (hq0 h) ?_,fun g2=>⟨fun g3=>bad (hq0 h) ?_,fun g3=>⟨fun g4=>bad (hq0 h) ?_,fun g4=>⟨fun g5=>no _ ?_ (by omega),fun g5=>?_⟩⟩⟩⟩⟩⟩
 ·rw[mk,show decide (bN m.data<=32)=false by simpa using g1];rfl
 ·rw[mk,show bJ L m.k0=false by simpa using g2];simp
 ·rw[mk,show bJ L m.k1=false by simpa using g3];simp
 ·rw[mk,show bJ L m.k2=false by simpa using g4];simp
 all_goals
  have hm:fj L m=true:=by
   rw[mk,show decide (bN m.data<=32)=true by simpa using g1,show bJ L m.k0=true by simpa using g2,show bJ L m.k1=true by simpa using g3,show bJ L m.k2=true by simpa using g4];rfl
 ·unfold gd;rw[aa8 (hq0 h),aa8 (by simp[hm]),aa9 (by simpa using g5)]
 have g5':bz L i=1:=by simpa using g5
 have hE:gd L i m=0:=by unfold gd;rw[aa8 (hq0 h),aa8 (by simp[hm]),aa8 (by omega)]
 obtain⟨a,b,c,d⟩:=oM (qs.1.1 (by omega:0<=bz L i))
 refine⟨hsz,hs8 (Df hm),⟨by omega,by omega,by omega⟩,hE.symm,?_⟩
 obtain⟨f0,f1,f2⟩:=CT (by have:=gA hL;omega:0<L.length) m
 have ho:=Gj (m:=aH L m) (a:=void) (dq hL i.toNat (by omega)) d f0 f1 f2 (zo (by omega))
 have e:Obj.mk (aL L i).kind (aL L i).count (aL L i).calls (((((((aL L i).slots.put 2 (Key.mk 1 void.oid void.count void.call void.rights 1)).put 3 (Key.mk 1 void.oid void.count void.call void.rights m.code)).put 12 (ah L m.k0)).put 13 (ah L m.k1)).put 14 (ah L m.k2)).put 15 void) (Kn (fa.put 0 (UX (bN m.data))) (Int.toNat 1) (Int.toNat 64) m.data)=yE (aL L i) (aH L m) void:=by
  rw[M5 (Df hm)];rfl
 rw[e,c,(lY a b ho).1];unfold gw rC;rw[aa9 hE]
theorem V1 (L:List Sx.Obj) (i:Int) (m:br) (hL:ar L) (hs:aw m.data):an Tryz.prog 63 [.lp 0 0,.it .i64 i,jG m] [.store tS eS L] (B8 (.it .i64 (gd L i m)) (gw L i m)) (fun _ _=>False):=
 aY (inl:=(fun f=>f==91||f==94||f==93||f==100||f==129||f==96||f==128||f==98)) (ann:=(iv [(94,2,MO 4)])) (ae bC (ae ga (ae ir (ae gy (ae dH (ae rf aq)))))) (aB dz aD) (eh lG) (W6 L i m hL hs) (by kernel_rfl)
theorem XX:kL Tryz.prog 63 aah:=
 Ch (m:=fun x=>ZI.cn x 0) (fL KB (fun _=>rfl)) (fun _=>rfl) (fun _ _=>rfl) (fun x hs=>aY (inl:=(fun f=>f==91||f==94||f==93||f==100||f==129||f==96||f==128||f==98)) (ann:=aQ) (ae sb (ae ga (ae ir (ae gy (ae dH (ae rf aq)))))) (aB dz aD) (eh lG) (R6 x.1 x.2.1 hs) (by kernel_rfl)) (fun x hs=>aY (inl:=(fun f=>f==91||f==94||f==93||f==100||f==129||f==96||f==128||f==98)) (ann:=aQ) (ae sb (ae ga (ae ir (ae gy (ae dH (ae rf aq)))))) (aB dz aD) (eh lG) (RO x.1 x.2.1 hs) (by kernel_rfl)) fun L x hq=>V1 L x.1 x.2.1 hq.1 hq.2
theorem SP (i:Int) (k:Key) (md:Int) (m:br) (hs:aw m.data):
 true=true/\1=b7 [] i k md m:=by
 exact⟨rfl,rfl⟩
theorem TC (i:Int) (k:Key) (md:Int) (m:br) (hs:aw m.data):
 true=true/\1=b7 [] i k md m:=by
 exact⟨rfl,rfl⟩
theorem XA (L:List Sx.Obj) (i:Int) (k:Key) (md:Int) (m:br) (hL:ar L) (hs:aw m.data):
 abb (aba (!decide (0<ak L)) (1=b7 L i k md m/\L=fe L i k md m) (abb (abb (aba (!(decide (md=1)||(decide (md=2)||decide (md=3)))) (2=b7 L i k md m/\L=fe L i k md m) (abb (abb (aba (!(decide (bw k=0)&&(!aZ k||decide (cw k<ak L)))) (2=b7 L i k md m/\L=fe L i k md m) (abb (abd (bN m.data)/\abb (aba (!decide (bN m.data<=32)) (2=b7 L i k md m/\L=fe L i k md m) (abb (abb (aba (!(decide (bw m.k0=0)&&(!aZ m.k0||decide (cw m.k0<ak L)))) (2=b7 L i k md m/\L=fe L i k md m) (abb (abb (aba (!(decide (bw m.k1=0)&&(!aZ m.k1||decide (cw m.k1<ak L)))) (2=b7 L i k md m/\L=fe L i k md m) (abb (abb (aba (!(decide (bw m.k2=0)&&(!aZ m.k2||decide (cw m.k2<ak L)))) (2=b7 L i k md m/\L=fe L i k md m) (abb (aba (!(dP L i&&decide (iC L i=1))) (230=b7 L i k md m/\L=fe L i k md m) (abb (aba (!((decide (k.kind=6)||decide (k.kind=7))&&aU L k)) (231=b7 L i k md m/\L=fe L i k md m) ((aba (decide (k.kind=6)) (abb (abb (aba (!dP L k.oid) (231=b7 L i k md m/\L=fe L i k md m) (abb (aba (!(decide (iC L k.oid=0)||decide (md=3)&&decide (k.oid=i))) (232=b7 L i k md m/\L=fe L i k md m) (∃g:Unit,Iw L i k md m/\i=i/\md=md/\L=L/\k=k/\m.code=m.code/\m.data=m.data/\ah L m.k0=ah L m.k0/\ah L m.k1=ah L m.k1/\ah L m.k2=ah L m.k2/\i=i/\k=k/\md=md/\zG (decide (md=1)) 2 (zG (decide (md=2)) 1 (zG (decide (md=3)) 0 0))=jR md/\aL L i=aL L i)))))) (aba (decide (k.kind=7)) (abb (abb (aba (!dP L k.oid) (231=b7 L i k md m/\L=fe L i k md m) (abb (aba (!decide (iC L k.oid=2)) (232=b7 L i k md m/\L=fe L i k md m) (abb (aba (!decide ((aL L k.oid).calls<4294967295)) (233=b7 L i k md m/\L=fe L i k md m) (∃g:Unit,Iw L i k md m/\i=i/\md=md/\L=L/\k=k/\m.code=m.code/\m.data=m.data/\ah L m.k0=ah L m.k0/\ah L m.k1=ah L m.k1/\ah L m.k2=ah L m.k2/\i=i/\k=k/\md=md/\zG (decide (md=1)) 2 (zG (decide (md=2)) 1 (zG (decide (md=3)) 0 0))=jR md/\aL L i=aL L i)))))))) False))/\∀(g:Unit),Iw L i k md m->abb (aba (!(!decide (md=1)||decide ((aL L i).calls<4294967295))) (233=b7 L i k md m/\L=fe L i k md m) ((aba (decide (md=1)) (∃g:Unit,nP L i k md m/\i=i/\md=md/\L=L/\k=k/\m.code=m.code/\m.data=m.data/\ah L m.k0=ah L m.k0/\ah L m.k1=ah L m.k1/\ah L m.k2=ah L m.k2/\i=i/\k=k/\md=md/\jR md=jR md/\aL L i=aL L i/\Key.mk 7 i (aL L i).count (aL L i).calls void.rights void.value=iJ L i md) (∃g:Unit,nP L i k md m/\i=i/\md=md/\L=L/\k=k/\m.code=m.code/\m.data=m.data/\ah L m.k0=ah L m.k0/\ah L m.k1=ah L m.k1/\ah L m.k2=ah L m.k2/\i=i/\k=k/\md=md/\jR md=jR md/\aL L i=aL L i/\void=iJ L i md))/\∀(g:Unit),nP L i k md m->(abb (abb (abb (abb (∃g:Unit,nP L i k md m/\i=i/\md=md/\cN L i (Obj.mk (aL L i).kind (aL L i).count (aL L i).calls ((aL L i).slots.put 2 (abg (jR md))) (aL L i).bytes)=gJ L i md/\k=k/\m.code=m.code/\m.data=m.data/\ah L m.k0=ah L m.k0/\ah L m.k1=ah L m.k1/\ah L m.k2=ah L m.k2/\i=i/\k=k/\md=md/\jR md=jR md/\aL L i=aL L i/\iJ L i md=iJ L i md)))))/\∀(g:Unit),nP L i k md m->(aba (decide (k.kind=7)) (abb (abb (abd ((aL (gJ L i md) k.oid).calls+1)/\abb (∃g:Unit,nP L i k md m/\i=i/\md=md/\cN (gJ L i md) k.oid (Obj.mk (aL (gJ L i md) k.oid).kind (aL (gJ L i md) k.oid).count ((aL (gJ L i md) k.oid).calls+1) (aL (gJ L i md) k.oid).slots (aL (gJ L i md) k.oid).bytes)=gY L i k md/\k=k/\m.code=m.code/\m.data=m.data/\ah L m.k0=ah L m.k0/\ah L m.k1=ah L m.k1/\ah L m.k2=ah L m.k2/\i=i/\k=k/\md=md/\jR md=jR md/\aL L i=aL L i/\iJ L i md=iJ L i md)))) (∃g:Unit,nP L i k md m/\i=i/\md=md/\gJ L i md=gY L i k md/\k=k/\m.code=m.code/\m.data=m.data/\ah L m.k0=ah L m.k0/\ah L m.k1=ah L m.k1/\ah L m.k2=ah L m.k2/\i=i/\k=k/\md=md/\jR md=jR md/\aL L i=aL L i/\iJ L i md=iJ L i md))/\∀(g:Unit),nP L i k md m->abb (abb (abb (abb (abb (abd (bN m.data)/\aF IntKind.u8 (bN m.data)/\Cr 1 64 64/\abb (0=b7 L i k md m/\cN (gY L i k md) k.oid (Obj.mk (aL (gY L i k md) k.oid).kind (aL (gY L i k md) k.oid).count (aL (gY L i k md) k.oid).calls (((((((aL (gY L i k md) k.oid).slots.put 2 (abg 1)).put 3 (abg m.code)).put 12 (ah L m.k0)).put 13 (ah L m.k1)).put 14 (ah L m.k2)).put 15 (iJ L i md)) (Kn (fa.put 0 (UX (bN m.data))) (Int.toNat 1) (Int.toNat 64) m.data))=fe L i k md m)))))))))))))))))))))))))))))))):=by
 delta aba abg abd abb
 have hq1:(!decide (0<ak L))=true->ai L=0:=fun h=>by
  have h1:¬0<ak L:=by simpa using h
  unfold ak at h1;omega
 have hq0:(!decide (0<ak L))=false->ai L≠0:=fun h=>by
  have h1:0<ak L:=by simpa using h
  unfold ak at h1;omega
 have hsz:aF IntKind.i64 (bN m.data):=by unfold aw at hs;simp only[aF,bY,bN];omega
 have hs8:bN m.data<=32->aF IntKind.u8 (bN m.data):=fun h=>by simp only[aF,bY,bN]at *;omega
 simp only[vu,Ig];simp only[kr,jr,mD,hU,decide_true,Bool.and_true,Bool.not_true,Bool.or_false,Bool.not_false,Bool.false_eq_true,Bool.true_eq_false,false_implies,implies_true,true_implies,true_and,and_true,and_self];have mk:fj L m=(decide (bN m.data<=32)&&bJ L m.k0&&bJ L m.k1&&bJ L m.k2):=rfl
 refine⟨fun h=>n7 (Xh (hq1 h)) (by omega),fun h=>⟨fun c1=>n7 (E1 (hq0 h) (.inl ?_)) (by omega),fun c1=>⟨fun c2=>n7 (E1 (hq0 h) (.inr (.inl ?_))) (by omega),fun c2=>⟨hsz,fun g1=>n7 (E1 (hq0 h) (.inr (.inr ?_))) (by omega),fun g1=>⟨fun g2=>n7 (E1 (hq0 h) (.inr (.inr ?_))) (by omega),fun g2=>⟨fun g3=>n7 (E1 (hq0 h) (.inr (.inr ?_))) (by omega),fun g3=>⟨fun g4=>n7 (E1 (hq0 h) (.inr (.inr ?_))) (by omega),fun g4=>?_⟩⟩⟩⟩⟩⟩⟩
 ·simp at c1;omega
 ·simpa using c2
 ·rw[mk,show decide (bN m.data<=32)=false by simpa using g1];rfl
 ·rw[mk,show bJ L m.k0=false by simpa using g2];simp
 ·rw[mk,show bJ L m.k1=false by simpa using g3];simp
 ·rw[mk,show bJ L m.k2=false by simpa using g4];simp
 have hl:=hq0 h;have b1:1<=md/\md<=3:=by simp at c1;omega
 have b2:bJ L k=true:=by simpa using c2
 have b3:fj L m=true:=by
  rw[mk,show decide (bN m.data<=32)=true by simpa using g1,show bJ L m.k0=true by simpa using g2,show bJ L m.k1=true by simpa using g3,show bJ L m.k2=true by simpa using g4];rfl
 have b:¬(¬(1<=md/\md<=3)\/bJ L k=false\/fj L m=false):=by
  rw[b2,b3];rintro(x|x|x)
  ·exact x b1
  ·exact Bool.noConfusion x
  ·exact Bool.noConfusion x
 refine⟨fun g5=>n7 (F4 hl b (by simpa using g5)) (by omega),fun g5=>?_⟩
 have c:bz L i=1:=by simpa using g5
 refine⟨fun g6=>n7 (Al hl b c ?_) (by omega),fun g6=>?_⟩
 ·simp only[Bool.not_eq_true',Bool.and_eq_false_iff,Bool.or_eq_false_iff,decide_eq_false_iff_not]at g6;rcases g6 with⟨x,y⟩|x
  ·exact .inr (.inl (by omega))
  ·exact .inl x
 have d1:(k.kind=6\/k.kind=7)/\aU L k=true:=by simp at g6;exact⟨by omega,g6.2⟩
 have hd:(!dP L k.oid)=true->231=b7 L i k md m/\L=fe L i k md m:=fun x=>n7 (Al hl b c (.inr (.inr (qs.2.2 (by simpa using x))))) (by omega)
 have dd:0<=bz L k.oid->¬(aU L k=false\/¬(k.kind=6\/k.kind=7)\/bz L k.oid<0):=fun h0=>by
  rw[d1.2];rintro(x|x|x)
  ·exact Bool.noConfusion x
  ·exact x d1.1
  ·omega
 have hd':(!dP L k.oid)=false->0<=bz L k.oid/\iC L k.oid=bz L k.oid:=fun x=>by
  have hb:dP L k.oid=true:=by simpa using x
  exact⟨qs.1.2 hb,Zk hb⟩
 obtain⟨n0,n1,_,n3⟩:=FU b1;rw[n3];refine⟨⟨fun h6=>⟨hd,fun x=>⟨fun y=>?_,fun y=>⟨⟨⟩,?_,rfl⟩⟩⟩,fun h6=>⟨fun h7=>⟨hd,fun x=>⟨fun y=>?_,fun y=>⟨fun z=>?_,fun z=>⟨⟨⟩,?_,rfl⟩⟩⟩⟩,fun h7=>?_⟩⟩,fun _ hF=>?_⟩
 ·obtain⟨p0,pv⟩:=hd' x;have h6':=aa6 h6;rw[pv]at y;refine n7 (Ce hl b c (dd p0) (.inl ⟨h6',?_⟩)) (by omega)
  simp only[Bool.not_eq_true',Bool.or_eq_false_iff,Bool.and_eq_false_iff,decide_eq_false_iff_not]at y;exact⟨y.1,fun hh=>y.2.elim (fun u=>u hh.1) (fun u=>u hh.2)⟩
 ·obtain⟨p0,pv⟩:=hd' x;have h6':=aa6 h6;rw[pv]at y;simp only[Bool.not_eq_false',Bool.or_eq_true,aa2,aa3]at y;refine⟨hl,b1,b2,b3,c,d1.2,d1.1,p0,?_,fun hh=>by omega⟩
  rintro(⟨_,u,v⟩|⟨u,_⟩)
  ·exact y.elim u v
  ·omega
 ·obtain⟨p0,pv⟩:=hd' x;have h7':=aa6 h7;rw[pv]at y;exact n7 (Ce hl b c (dd p0) (.inr ⟨h7',by simpa using y⟩)) (by omega)
 ·obtain⟨p0,pv⟩:=hd' x;have h7':=aa6 h7;rw[pv]at y;have y':bz L k.oid=2:=by simpa using y
  obtain⟨_,_,k2,_⟩:=oM (qs.1.1 p0);rw[k2]at z;refine n7 (B4 hl b c (dd p0) ?_ (.inl ⟨h7',by simpa using z⟩)) (by omega)
  rintro(⟨u,_⟩|⟨_,u⟩)<;>omega
 ·obtain⟨p0,pv⟩:=hd' x;have h7':=aa6 h7;rw[pv]at y;have y':bz L k.oid=2:=by simpa using y
  obtain⟨_,_,k2,_⟩:=oM (qs.1.1 p0);rw[k2]at z;have z':(aj L k.oid.toNat free).calls<4294967295:=by simpa using z
  refine⟨hl,b1,b2,b3,c,d1.2,d1.1,p0,?_,fun hh=>by omega⟩
  rintro(⟨u,_⟩|⟨_,u⟩)<;>omega
 ·have h6':=aa5 h6;have h7':=aa5 h7;omega
 obtain⟨_,_,_,_,_,_,_,p0,f9,f10⟩:=hF;obtain⟨i0,i1,i2,i3⟩:=oM (qs.1.1 (by omega:0<=bz L i))
 rw[i2];refine⟨fun g7=>n7 (B4 hl b c (dd p0) f9 (.inr ?_)) (by omega),fun g7=>?_⟩
 ·simp only[Bool.not_eq_true',Bool.or_eq_false_iff,Bool.not_eq_false',aa3,decide_eq_false_iff_not]at g7;omega
 have hE:b7 L i k md m=0:=by
  refine Z7 hl b c (dd p0) f9 ?_;simp only[Bool.not_eq_false',Bool.or_eq_true,Bool.not_eq_true',aa3,decide_eq_false_iff_not]at g7;rintro(u|u)
  ·exact f10 u
  ·omega
 obtain⟨_,⟨⟨k0,k1⟩,_,_⟩,⟨hb,hb1⟩,⟨o1,l1⟩,⟨o2,l2⟩,⟨q1,q1c⟩,q2,hs32,hA⟩:=zF hL hE;obtain⟨_,_,hend⟩:=FQ hL hE;refine⟨⟨fun h1=>⟨⟨⟩,hE,?_⟩,fun h1=>⟨⟨⟩,hE,?_⟩⟩,fun _ _=>⟨⟨⟨⟩,hE,?_⟩,fun _ _=>⟨⟨fun h7=>⟨?_,⟨⟩,hE,?_⟩,fun h7=>⟨⟨⟩,hE,?_⟩⟩,fun _ _=>⟨hsz,hs8 hs32,⟨by omega,by omega,by omega⟩,hE.symm,?_⟩⟩⟩⟩
 ·unfold iJ;rw[aa9 (aa6 h1)];rfl
 ·unfold iJ;rw[aa8 (aa5 h1)]
 ·have e:=(Lx hL hb).2;rw[hb1,i2]at e;exact e
 ·have ho:=dS.1 (dq o1 k.oid.toNat (by omega))
  rw[fF k0 (by omega)]
  have:=ho.2.2.2.2.2.2.1;have:=ho.2.2.2.2.2.2.2.1;simp only[aF,bY];omega
 ·have h7':=aa6 h7;have hc:¬4294967295<=(aj L k.oid.toNat free).calls:=fun h=>f10 ⟨h7',h⟩
  have e:=(lY k0 (by omega) (OG (dq o1 k.oid.toNat (by omega)) q1 (by rw[q1c];omega))).1
  rw[fF k0 (by omega)]
  unfold gY;rw[aa9 h7'];exact e
 ·unfold gY;rw[aa8 (aa5 h7)]
 ·rw[M5 hs32,hE]at *;exact hend
theorem XC (L:List Sx.Obj) (i:Int) (k:Key) (md:Int) (m:br) (hL:ar L) (hs:aw m.data):an Tryz.prog 60 [.lp 0 0,.it .i64 i,.key k,.it .i64 md,jG m] [.store tS eS L] (B8 (.it .i64 (b7 L i k md m)) (fe L i k md m)) (fun _ _=>False):=
 aY (inl:=(fun f=>f==91||f==92||f==97||f==99||f==126||f==127||f==94||f==93||f==100||f==129||f==96||f==128||f==98)) (ann:=(iv [(94,2,MO 4),(60,2000015,QJ [0,1,3,7,10,11,12,15,20] (fun(_:Unit)=> []) (fun _=> [(12,.blk 129 (.it .i64 (jR md)))]) (fun _=> []) (fun _=>Iw L i k md m)),(60,2000019,QJ [0,1,3,7,10,11,12,15,20] (fun(_:Unit)=> []) (fun _=> [(20,.blk tK (.key (iJ L i md)))]) (fun _=> []) (fun _=>nP L i k md m)),(60,2000020,QJ [0,1,3,7,10,11,12,15,20] (fun(_:Unit)=> []) (fun _=> []) (fun _=> [(0,.store tS eS (gJ L i md))]) (fun _=>nP L i k md m)),(60,2000022,QJ [0,1,3,7,10,11,12,15,20] (fun(_:Unit)=> []) (fun _=> []) (fun _=> [(0,.store tS eS (gY L i k md))]) (fun _=>nP L i k md m))])) (ae bC (ae ga (ae ir (ae gy (ae dH (ae rf (ae bQ (ae wh aq)))))))) (aB dz aD) (eh lG) (XA L i k md m hL hs) (by kernel_rfl)
theorem Wt:kL Tryz.prog 60 ZV:=
 Ch (m:=fun x=>ZM.cn x 0) (fL Ok (fun _=>rfl)) (fun _=>rfl) (fun _ _=>rfl) (fun x hs=>aY (inl:=(fun f=>f==91||f==92||f==97||f==99||f==126||f==127||f==94||f==93||f==100||f==129||f==96||f==128||f==98)) (ann:=aQ) (ae sb (ae ga (ae ir (ae gy (ae dH (ae rf (ae bQ (ae wh aq)))))))) (aB dz aD) (eh lG) (SP x.1 x.2.1 x.2.2.1 x.2.2.2.1 hs) (by kernel_rfl)) (fun x hs=>aY (inl:=(fun f=>f==91||f==92||f==97||f==99||f==126||f==127||f==94||f==93||f==100||f==129||f==96||f==128||f==98)) (ann:=aQ) (ae sb (ae ga (ae ir (ae gy (ae dH (ae rf (ae bQ (ae wh aq)))))))) (aB dz aD) (eh lG) (TC x.1 x.2.1 x.2.2.1 x.2.2.2.1 hs) (by kernel_rfl)) fun L x hq=>XC L x.1 x.2.1 x.2.2.1 x.2.2.2.1 hq.1 hq.2
theorem Q8 (L:List Sx.Obj) (hl:iq L):
 (∃g,iu L g/\Value.slice none 0 0=Value.slice none 0 0/\0=g/\L=L/\[]=dJ L g)/\∀(g:Int),iu L g->aba (decide (g<bD (ai L))) (aba (decide (bz L g=1)) (sT (ai (dJ L g)) 8/\abd (g+1)/\∃g',iu L g'/\(bD (ai L)-g').toNat<(bD (ai L)-g).toNat/\Value.slice none 0 0=Value.slice none 0 0/\g+1=g'/\L=L/\jh (dJ L g) g=dJ L g') (abd (g+1)/\∃g',iu L g'/\(bD (ai L)-g').toNat<(bD (ai L)-g).toNat/\Value.slice none 0 0=Value.slice none 0 0/\g+1=g'/\L=L/\dJ L g=dJ L g')) (true=true/\∀(nid:Nat),some (V.sa nid)=some (V.sa nid)/\some [aK.arr (some tI) 1 (TL.it IntKind.i64 (dJ L g))]=some [aK.arr (some tI) 1 (TL.it IntKind.i64 (dJ L (bD (ai L))))]):=by
 delta aba abd
 simp only[kr,jr,mD,hU,decide_true,Bool.and_true,Bool.not_true,Bool.or_false,Bool.not_false,Bool.false_eq_true,Bool.true_eq_false,false_implies,implies_true,true_implies,true_and,and_true,and_self];refine⟨⟨0,⟨by omega,by omega⟩,rfl,(wa L).symm⟩,fun g hg=>⟨fun h=>?_,fun h=>?_⟩⟩
 ·have h1:g<(L.length:Int):=aa6 h;obtain⟨s1,s2,s3⟩:=EN hl hg h1;have e:=vU L hg.1;refine⟨fun h2=>⟨DM hl h1,s1,g+1,s2,s3,rfl,?_⟩,fun h2=>⟨s1,g+1,s2,s3,rfl,?_⟩⟩
  ·rw[e,aa9 (aa6 h2)]
  ·rw[e,aa8 (aa5 h2)]
 ·have h1:¬g<(L.length:Int):=aa5 h;have:g=bD (ai L):=by have:=hg.2;unfold bD ai at *;omega
  rw[this];exact fun _=>rfl
theorem TR (L:List Sx.Obj) (hl:iq L):an Tryz.prog 49 [.sa 0] [.ro (.arr none 163 (.ob L))] (Dd true jJ (fun n=> .sa n) (.arr (some tI) 1 (.it .i64 (dJ L (bD (ai L)))))) (fun _ _=>False):=
 bj (inl:=bx) (ann:=(iv [(49,3,lpS [0,2] (fun g=> [(4,.it .i64 g)]) 3 tI 1 (fun g=> .it .i64 (dJ L g)) (iu L) (bD (ai L)))])) (ae vd aq) aD (Q8 L hl) (by kernel_rfl)
theorem Tg:kL Tryz.prog 49 WX:=
 Ac (aA jb bV) (fun _=>rfl) (fun _=>by simp) fun a hq hok=>by
  obtain⟨L,_⟩:=a;exact TR L hq
theorem UF:
 abb (abb (∀(r0:Loop),(∃g,iu [] g/\ak []=ak []/\0=g/\Value.pointer none=Value.pointer none/\r0=r0/\[]=dJ [] g)/\∀(g:Int),iu [] g->aba (decide (g<ak [])) False (abb (∀(nid:Nat),some (V.sa nid)=some (V.sa nid)/\some [aK.arr (some tI) 1 (TL.it IntKind.i64 (dJ [] g))]=some [aK.arr (some tI) 1 (TL.it IntKind.i64 (dJ [] (bD (ai ([]:List Sx.Obj)))))])))):=by
 delta aba abb
 simp only[kr,jr,mD,hU,decide_true,Bool.and_true,Bool.not_true,Bool.or_false,Bool.not_false,Bool.false_eq_true,Bool.true_eq_false,false_implies,implies_true,true_implies,true_and,and_true,and_self];refine fun _=>⟨⟨0,⟨by omega,by unfold ai;simp⟩,rfl,rfl⟩,fun g hg=>⟨fun h=>?_,fun h _=>?_⟩⟩
 ·have h1:g<ak []:=aa6 h;have:=hg.1;unfold ak ai at h1;simp at h1;omega
 ·have:g=bD (ai ([]:List Obj)):=by have:=hg.1;have:=hg.2;unfold bD ai at *;simp at *;omega
  rw[this];rfl
theorem TH:an Tryz.prog 57 [jJ] [] (Dd true jJ (fun n=> .sa n) (.arr (some tI) 1 (.it .i64 (dJ [] (bD (ai ([]:List Sx.Obj))))))) (fun _ _=>False):=
 bj (inl:=(fun f=>f==88||f==24)) (ann:=(iv [(4000+44,1,lpV [0,1,5] (fun g=> [(6,.it .i64 g)]) 0 103 tI 1 (fun g=> .it .i64 (dJ [] g)) (iu []) (bD (ai ([]:List Sx.Obj))))])) (ae bC aq) aD (UF) (by kernel_rfl)
theorem WU (L:List Sx.Obj) (hl:iq L):
 abb (abb (∀(r0:Loop),(∃g,iu L g/\ak L=ak L/\0=g/\L=L/\r0=r0/\[]=dJ L g)/\∀(g:Int),iu L g->aba (decide (g<ak L)) ((0<=g/\g< ↑(ai L))/\g.toNat<ai L/\g.toNat<ai L/\r0=r0/\r0=r0/\abb (aba (!decide ((aj L g.toNat free).kind=1)|| !decide (((aj L g.toNat free).slots.at 2).kind=1)||decide (((aj L g.toNat free).slots.at 2).value<0)||decide (2<((aj L g.toNat free).slots.at 2).value)) (r0=r0/\abd (g+1)/\∃g',iu L g'/\(bD (ai L)-g').toNat<(bD (ai L)-g).toNat/\ak L=ak L/\g+1=g'/\L=L/\r0=r0/\dJ L g=dJ L g') (aba (decide (((aj L g.toNat free).slots.at 2).value=1)) (sT (ai (dJ L g)) 8/\r0=r0/\abd (g+1)/\∃g',iu L g'/\(bD (ai L)-g').toNat<(bD (ai L)-g).toNat/\ak L=ak L/\g+1=g'/\L=L/\r0=r0/\jh (dJ L g) g=dJ L g') (r0=r0/\abd (g+1)/\∃g',iu L g'/\(bD (ai L)-g').toNat<(bD (ai L)- g).toNat/\ak L=ak L/\g+1=g'/\L=L/\r0=r0/\dJ L g=dJ L g')))) (abb (∀(nid:Nat),some (V.sa nid)=some (V.sa nid)/\some [aK.arr (some tI) 1 (TL.it IntKind.i64 (dJ L g))]=some [aK.arr (some tI) 1 (TL.it IntKind.i64 (dJ L (bD (ai L))))])))):=by
 delta aba abd abb
 simp only[yo];simp only[kr,jr,mD,hU,decide_true,Bool.and_true,Bool.not_true,Bool.or_false,Bool.not_false,Bool.false_eq_true,Bool.true_eq_false,false_implies,implies_true,true_implies,true_and,and_true,and_self];refine fun _=>⟨⟨0,⟨by omega,by omega⟩,rfl,(wa L).symm⟩,fun g hg=>⟨fun h=>?_,fun h=>?_⟩⟩
 ·have h1:g<(L.length:Int):=aa6 h;obtain⟨s1,s2,s3⟩:=EN hl hg h1;have e:=vU L hg.1;have hlL:ai L=L.length:=rfl;have hg0:=hg.1;have hget:aL L g=aj L g.toNat free:=fF hg.1 h1;refine⟨⟨by omega,by omega⟩,by omega,by omega,fun h2=>⟨s1,g+1,s2,s3,rfl,?_⟩,fun h2=>⟨fun h3=>⟨DM hl h1,s1,g+1,s2,s3,rfl,?_⟩,fun h3=>⟨s1,g+1,s2,s3,rfl,?_⟩⟩⟩
  ·have hb:dP L g=false:=by unfold dP;rw[hget];simpa using h2
   rw[e,aa8 (by rw[(tX hb).1];omega)]
  ·have hb:dP L g=true:=by unfold dP;rw[hget];simpa using h2
   rw[e,aa9 (by rw[(mr hb).1,hget];exact aa6 h3)]
  ·have hb:dP L g=true:=by unfold dP;rw[hget];simpa using h2
   rw[e,aa8 (by rw[(mr hb).1,hget];exact aa5 h3)]
 ·have h1:¬g<(L.length:Int):=aa5 h;have:g=bD (ai L):=by have:=hg.2;unfold bD ai at *;omega
  rw[this];exact fun _=>rfl
theorem XN (L:List Sx.Obj) (hl:iq L):an Tryz.prog 57 [.lp 0 0] [.ro (.store tS eS L)] (Dd true jJ (fun n=> .sa n) (.arr (some tI) 1 (.it .i64 (dJ L (bD (ai L)))))) (fun _ _=>False):=
 bj (inl:=(fun f=>f==88||f==24)) (ann:=(iv [(4000+44,1,lpV [0,1,5] (fun g=> [(6,.it .i64 g)]) 1 103 tI 1 (fun g=> .it .i64 (dJ L g)) (iu L) (bD (ai L)))])) (ae bC aq) aD (WU L hl) (by kernel_rfl)
theorem Xg:kL Tryz.prog 57 aay:=
 Ac (aA s5 bV) (fun _=>rfl) (fun _=>by simp) fun a hq hok=>by
  obtain⟨S,_⟩:=a;cases S with
  |none=>exact TH
  |some L=>exact XN L hq
end Go.Proofs.YtlblcfaclmpekaaGreat
namespace Go.Sx
def oP:Nat:=179
def jx (k:Key) (r:Int):Key:=if k.kind=2 then di k (iz k.rights r)else if k.kind=3 then di k (iz k.rights (r.tmod 2))else k
def iI (k:Key) (r:Int):Prop:=aV k=true/\0<=r/\r<=7
def W0:Ct:=ti (bc kA (bc iA gK)) (fun x=>some (iI x.1 x.2.1)) fun x=> .tp [.key (jx x.1 x.2.1),.ci .i64 0]
def Sh:Ct:=ti (bc kA (bc iA gK)) (fun x=>some (iI x.1 x.2.1)) fun x=> .key (jx x.1 x.2.1)
def kS (a b:Key):Bool:=aV a&&aV b&&(decide (a.kind=0)||yf a b||(decide (a.kind=2)||decide (a.kind=3))&&decide (a.kind=b.kind)&&decide (a.oid=b.oid)&&decide (a.count=b.count)&&decide (iz a.rights b.rights=a.rights))
def Qm:Ct:=Sg rK rK fun a b=> .bo (kS a b)
theorem GG {a:Int} (h:0<=a/\a<=7):∃x:Fin 8,a=(x.val:Int):=⟨⟨a.toNat,by omega⟩,by simp;omega⟩
theorem O9 {a r:Int} (h:0<=a/\a<=7) (h':0<=r/\r<=7):bm .or .i64 a (bm .and .i64 r 7)=iz a r:=by
 have key:∀x y:Fin 8,bm .or .i64 (x.val:Int) (bm .and .i64 (y.val:Int) 7)=iz (x.val:Int) (y.val:Int):=by decide+kernel
 obtain⟨x,rfl⟩:=GG h;obtain⟨y,rfl⟩:=GG h';exact key x y
theorem NP {a r:Int} (h:0<=a/\a<=1) (h':0<=r/\r<=7):bm .or .i64 a (bm .and .i64 r 1)=iz a (r.tmod 2):=by
 have key:∀x y:Fin 8,x.val<=1->bm .or .i64 (x.val:Int) (bm .and .i64 (y.val:Int) 1)=iz (x.val:Int) ((y.val:Int).tmod 2):=by decide+kernel
 obtain⟨x,rfl⟩:=GG (a:=a) (by omega)
 obtain⟨y,rfl⟩:=GG h';exact key x y (by omega)
theorem KH {r:Int} (h':0<=r/\r<=7):bm .or .i64 0 (bm .and .i64 r 0)=0:=by
 have key:∀y:Fin 8,bm .or .i64 0 (bm .and .i64 (y.val:Int) 0)=0:=by decide+kernel
 obtain⟨y,rfl⟩:=GG h';exact key y
theorem Bl {a b:Int} (h:0<=a/\a<=7) (h':0<=b/\b<=7):decide (bm .andNot .i64 b a=0)=decide (iz a b=a):=by
 have key:∀x y:Fin 8,decide (bm .andNot .i64 (y.val:Int) (x.val:Int)=0)=decide (iz (x.val:Int) (y.val:Int)=(x.val:Int)):=by decide+kernel
 obtain⟨x,rfl⟩:=GG h;obtain⟨y,rfl⟩:=GG h';exact key x y
def eV (k:Key):br:=⟨0,⟨#[]⟩,k,void,void⟩
def fm (n:Int):br:=⟨0,⟨#[]⟩,void,void,cK n⟩
def gq (s:ByteArray):br:=⟨0,s,void,void,void⟩
def gf (e:Int):br:=⟨e,⟨#[]⟩,void,void,void⟩
def fk (k:Key):Key:=⟨2,k.oid,k.count,0,0,0⟩
def aS (m:br):Int:=if 0<=m.k2.value/\m.k2.value<=2147483647 then m.k2.value else -1
def ea (b:Bool):Int:=if b then 1 else 0
def qw (n:Int):Int:=imax 0 (lQ 32 (64-n))
abbrev OE:=Int×br×List Obj
def ep (L:List Obj) (k:Key) (m:br):OE:=
 if m.code=1 then(bW L k (aS m),eV (aJ L k (aS m)),L)
 else if m.code=2 then(bk L k (aS m) m.k0,eV (cR L k (aS m) m.k0),cB L k (aS m) m.k0)
 else if m.code=3 then(aC L k 2 true,cY,fD L k)
 else if m.code=4 then(bS L k m.k0,cY,eT L k m.k0)
 else if m.code=5 then(if 0<=m.k2.value/\m.k2.value<=7 then 0 else 2,eV (jx k m.k2.value),L)
 else(if k.rights=0 then 0 else 191,eV ⟨5,k.oid,k.count,0,0,0⟩,L)
def ev (L:List Obj) (k:Key) (m:br):OE:=
 if m.code=1 then(cy L k (aS m) (qw (aS m)),gq (ec L k (aS m) (qw (aS m))),L)
 else if m.code=2 then(cM L k (aS m) m.data,cY,eX L k (aS m) m.data)
 else if m.code=3 then(aW L k true,cY,fl L k)
 else if m.code=4 then(cV L k m.k0,cY,fA L k m.k0)
 else(if 0<=m.k2.value/\m.k2.value<=7 then 0 else 2,eV (jx k m.k2.value),L)
def dA (L:List Obj) (k:Key) (m:br):OE:=
 if m.code=1 then(cx L k 1,eV (de L k 1),fu L k 1)
 else if m.code=2 then(cx L k 2,eV (de L k 2),fu L k 2)
 else if m.code=3 then(cD L k m.k0,cY,gE L k m.k0)
 else if m.code=4 then(bZ L k (aS m),eV (cc L k (aS m)),bF L k (aS m))
 else if m.code=5 then(aN L k,fm (ea (jy L k m.k0)),L)
 else(aN L k,fm (fG L k),gZ L k)
def fK (L:List Obj) (k:Key):Key:=aJ L (fk k) 0
def dr (L:List Obj) (k:Key) (m:br):OE:=
 if m.code=1 then(if aS m<0\/11<aS m then 4 else bW L (fk k) (aS m+4),eV (aJ L (fk k) (aS m+4)),L)
 else if m.code=2 then(if aS m<0\/11<aS m then 4 else bk L (fk k) (aS m+4) m.k0,eV (cR L (fk k) (aS m+4) m.k0),if aS m<0\/11<aS m then L else cB L (fk k) (aS m+4) m.k0)
 else if m.code=3 then(0,eV ⟨6,k.oid,k.count,0,0,m.k2.value⟩,L)
 else if m.code=4 then(0,fm (bz L k.oid),L)
 else if m.code=5 then(eu L k.oid (aS m),cY,dc L k.oid (aS m))
 else if m.code=6 then(if cg L (fK L k) m.k2.value 32=0 then(if bU L (fK L k) m.k2.value 32 false=0 then 0 else 1000+bU L (fK L k) m.k2.value 32 false)else cg L (fK L k) m.k2.value 32,gq (jM L (fK L k) m.k2.value 32),L)
 else(if cg L (fK L k) m.k2.value (bN m.data)=0 then(if bU L (fK L k) m.k2.value (bN m.data) true=0 then 0 else 1000+bU L (fK L k) m.k2.value (bN m.data) true)else cg L (fK L k) m.k2.value (bN m.data),cY,kz L (fK L k) m.k2.value m.data)
def c9 (kind:Int):Int:=if kind=1 then 1 else if kind=2 then 6 else if kind=3 then 5 else if kind=4 then 6 else if kind=5 then 7 else if kind=8 then 3 else if kind=9\/kind=10 then 1 else 0
def cX (kind c:Int):Bool:=
 if kind=2\/kind=3 then decide (c=1)||decide (c=2)||decide (c=5)else if kind=4 then decide (c=4)
 else if kind=5 then decide (1<=c/\c<=3)||decide (5<=c/\c<=7)else false
def eH (L:List Obj) (now:Int) (k:Key) (m:br):OE:=
 if k.kind=1 then(0,fm k.value,L)
 else if k.kind=2 then ep L k m
 else if k.kind=3 then ev L k m
 else if k.kind=4 then dA L k m
 else if k.kind=5 then dr L k m
 else if k.kind=8 then(0,if m.code=1 then fm m.k0.kind else if m.code=2 then fm (ea (kS m.k0 m.k1))else fm m.k0.rights,L)
 else if k.kind=9 then(0,fm now,L)
 else(0,cY,L)
def dG (L:List Obj) (now:Int) (k:Key) (m:br):OE:=
 if k.kind=0 then(190,cY,L)
 else if m.code=0 then(0,fm k.kind,L)
 else if m.code<1\/c9 k.kind<m.code\/(cX k.kind m.code=true/\m.k2.kind≠1)then(240,cY,L)
 else eH L now k m
def ei (L:List Obj) (now:Int) (k:Key) (m:br):br:=if(dG L now k m).1=0 then(dG L now k m).2.1 else gf (dG L now k m).1
def ey (L:List Obj) (now:Int) (k:Key) (m:br):List Obj:=(dG L now k m).2.2
def aP (L:List Obj) (now:Int) (k:Key) (m:br):br×List Obj:=(ei L now k m,ey L now k m)
def kk (c:Int) (k:Key):Key:=⟨c,k.oid,k.count,k.call,k.rights,k.value⟩
def mm (c:Int) (m:br):br:=⟨c,m.data,m.k0,m.k1,m.k2⟩
def eB:ByteArray:=⟨#[]⟩
def iL (c:V) (m:br) (n:Int) (kd:V) (k:Key):V:= .ag [.ag [c,.st m.data,.ag [.key m.k0,.key m.k1,.key m.k2]],.lp 1 0,.it .i64 n,.ag [kd,.it .i64 k.oid,.it .i64 k.count,.it .i64 k.call,.it .i64 k.rights,.it .i64 k.value]]
def kO (A:br×List Obj) (v:V) (r:List aK):Prop:=
 match Aw v with
 |some x=>match ay r 1 with
  | .store t e M=>if t==tS&&e==eS then(x,M)=A else False
  |_=>False
 |none=>False
theorem VM {A:br×List Obj} {v:V} {r:List aK} (h:kO A v r):xa (jG A.1) v r/\ay r 1= .store tS eS A.2:=by
 unfold kO at h;split at h
 case h_2=>exact h.elim
 rename_i x hx;split at h
 case h_2=>exact h.elim
 rename_i hr;split at h
 case isFalse=>exact h.elim
 rename_i hc;simp only[aa2,aa4]at hc;obtain⟨rfl,rfl⟩:=hc;subst h;obtain⟨a,b⟩:=CV v x hx;have ht:cS v=false:=by cases v<;>first|rfl|simp[Aw]at hx
 exact⟨fun J K=>⟨a J,fun h=>fP (b K h),ht⟩,hr⟩
def uG (r:OE):br×List Obj:=(if r.1=0 then r.2.1 else gf r.1,r.2.2)
theorem Ih {L:List Obj} {n:Int} {k:Key} {m:br} {c:Int} (hc:1<=c/\c<=7):aP L n (kk 5 k) (mm c m)=if cX 5 c=true/\m.k2.kind≠1 then(gf 240,L)else uG (dr L (kk 5 k) (mm c m)):=by
 have h0:¬c=0:=by omega
 have h1:¬(c<1\/c9 5<c):=by have:c9 5=7:=by decide
                            omega
 have e1:(kk 5 k).kind=5:=rfl;have e2:(mm c m).code=c:=rfl;have e3:(mm c m).k2=m.k2:=rfl;have hb:eH L n (kk 5 k) (mm c m)=dr L (kk 5 k) (mm c m):=by unfold eH;rw[e1];rfl
 have hr:dG L n (kk 5 k) (mm c m)=if cX 5 c=true/\m.k2.kind≠1 then(240,cY,L)else dr L (kk 5 k) (mm c m):=by
  unfold dG;rw[e1,e2,e3,aa8 (by omega),aa8 h0,hb]
  by_cases h:cX 5 c=true/\m.k2.kind≠1
  ·rw[aa9 (.inr (.inr h)),aa9 h]
  ·rw[aa8 (fun hh=>by rcases hh with hh|hh|hh;exact h1 (.inl hh);exact h1 (.inr hh);exact h hh),aa8 h]
 unfold aP ei ey;rw[hr];by_cases h:cX 5 c=true/\m.k2.kind≠1
 ·simp only[aa9 h];rfl
 ·simp only[aa8 h];rfl
theorem KV {L:List Obj}:∀(n:Nat) (w:Wk),0<=(QC L n w).kd/\(QC L n w).kd<=4
 |0,w=>by simp[QC]
 |n+1,w=>by
  unfold QC;split
  ·split<;>simp
  ·split
   ·split
    ·rename_i r heq;unfold mn at heq;split at heq
     ·simp at heq;rw[<-heq];simp
     ·split at heq
      ·split at heq
       ·simp at heq
       ·simp at heq;rw[<-heq];simp
      ·simp at heq;rw[<-heq];simp
    ·exact KV n _
   ·simp
theorem IH {L:List Obj} {k:Key} {a n:Int} {w:Bool}:0<=bU L k a n w/\bU L k a n w<=6:=by
 have h:0<=(au L k a).kd/\(au L k a).kd<=4:=by
  unfold au;split
  ·exact KV _ _
  ·simp[YE]
 unfold bU;grind
def qq (L:List Obj) (n:Int) (k:Key) (m:br):Bool:=decide (0<=n)&&fj L m&&bJ L k
def cJ (L:List Obj) (n:Int) (k:Key) (m:br):Int:=
 if ai L=0 then 1 else if qq L n k m=false then 2 else if(ah L k).kind=6\/(ah L k).kind=7 then 241 else 0
def aG (L:List Obj) (n:Int) (k:Key) (m:br):br:=if cJ L n k m=0 then ei L n (ah L k) (aH L m)else cY
def cW (L:List Obj) (n:Int) (k:Key) (m:br):Bool:=decide (cJ L n k m=0)&&decide ((ah L k).kind=10)&&decide (m.code=1)
def gX (L:List Obj) (n:Int) (k:Key) (m:br):List Obj:=if cJ L n k m=0 then ey L n (ah L k) (aH L m)else L
def Pq:Ct:=ti (bc sA (bc kA gK)) (fun _=>none) fun x=> .bo (bJ (Dx x.1) x.2.1)
def OQ:ld (Int×Key×br×Unit):=bc iA (bc kA (bc mA gK))
theorem Ie:gS OQ:=aA dN (aA iF (aA zN bV))
def aaW:kc:=YB (uk OQ) (fun x=>aw x.2.2.1.data) (fun L x=>ar L/\aw x.2.2.1.data) (fun L x=> .tp [jG (aG L x.1 x.2.1 x.2.2.1),.bo (cW L x.1 x.2.1 x.2.2.1),.it .i64 (cJ L x.1 x.2.1 x.2.2.1)]) fun L x=>gX L x.1 x.2.1 x.2.2.1
def Vg (L:List Obj) (k:Key) (m:br):Prop:=ar L/\aw m.data/\aV k=true
def US:kc:=fun args res K=>
 match args with
 | [a]=>match a with
   | .lp j off=>if off==0 then match ay res j with
     | .blk t c=>if t==oP then match c with
       | .ag cl=>match cl with
         | [mv,sv,nv,kv]=>match Aw mv with
           |some m=>match sv with
            | .lp i o2=>if o2==0&& !(i==j)then match rI .i64 nv with
              |some n=>match rK kv with
               |some k=>match ay res i with
                | .store t2 e L=>if t2==tS&&e==eS then Vg L k m/\K (jG (ei L n k m)) (bO res i (.store tS eS (ey L n k m)))else False
                |_=>False
               |none=>False
              |none=>False
              else False
            |_=>False
           |none=>False
         |_=>False
       |_=>False
       else False
     |_=>False
     else False
   |_=>False
 |_=>False
theorem uf {L:List Obj} {k:Key}:aV (ah L k)=true:=by
 unfold ah;split
 ·rfl
 ·rename_i h;simp only[Bool.or_eq_true,not_or,Bool.not_eq_true',Bool.not_eq_false]at h;exact h.1.2
theorem rG {k:IntKind} {v:V} {n:Int} (h:rI k v=some n):ke v=true:=by
 cases v<;>first|rfl|simp[rI,toInt]at h
theorem LI {v:V} {s:ByteArray} (h:Fc v=some s):ke v=true:=by
 cases v<;>first|rfl|simp[Fc]at h
theorem C8 {v:V} {k:Key} (h:rK v=some k):ke v=true:=by
 unfold rK at h;split at h
 ·rfl
 ·split at h
  case h_2=>simp at h
  repeat' (split at h<;>try(simp at h;done))
  rename_i h1 _ _ h2 _ _ h3 _ _ h4 _ _ h5 _ _ h6;simp[ke,lf,rG h1,rG h2,rG h3,rG h4,rG h5,rG h6]
 ·simp at h
theorem Lf {v:V} {m:br} (h:Aw v=some m):ke v=true:=by
 unfold Aw at h;split at h
 case h_2=>simp at h
 split at h
 case h_2=>simp at h
 split at h
 case h_2=>simp at h
 rename_i hn;split at h
 case h_2=>simp at h
 rename_i hs;split at h
 case h_2=>simp at h
 split at h
 case h_2=>simp at h
 split at h
 case h_2=>simp at h
 rename_i hk;split at h
 case h_2=>simp at h
 rename_i hk';split at h<;>simp only[aa0,reduceCtorEq]at h
 rename_i hk'';simp[ke,lf,rG hn,LI hs,C8 hk,C8 hk',C8 hk'']
theorem DY {P:Program} {f:Nat} {K KP:V->List aK->Prop} {t:Nat} {c c':V} {r:aK} (hr:r≠ .yet) (hc:∀J,cells J c=cells J c') (hc':∀K,ok K c->ok K c') (hct:cS c'=false)
  (h:an P f [.lp 0 0] [.ro (.blk t c'),r] K KP):an P f [.lp 0 0] [.ro (.blk t c),r] K KP:=by
 have hk:∀i (x:V),known [.ro (.blk t x),r] i↔i=0\/i=1:=fun i x=>by
  unfold known;rcases i with _|_|i<;>simp[ay,hr]
 have hkk:∀i (x y:V),known [.ro (.blk t x),r] i->known [.ro (.blk t y),r] i:=fun i x y h=>(hk i y).2 ((hk i x).1 h)
 refine h.tF fun J fps w0 F0 w hH=>⟨J,fps,hH.weaken fun i hi=>⟨hkk i _ _ hi,fun fp hh=>?_⟩,Env.bE.refl _ _,fun i hi=>hkk i _ _ hi⟩
 rcases(hk i _).1 hi with rfl|rfl
 ·obtain⟨fp',⟨h1,h2,h3,h4⟩,h5⟩:=hh;exact⟨fp',⟨hc' _ (dY (fun i hi=>hkk i _ _ hi) _ h1),hct,h3,by rw[<-hc];exact h4⟩,h5⟩
 ·exact aK.oi _ hh fun i hi=>hkk i _ _ hi
theorem zM {P:Program} {f:Nat} {K KP:V->List aK->Prop} {c c' d d':V} {m:br} {n:Int} {k:Key} {r:aK} (hr:r≠ .yet) (hc:∀J,den J c=den J c') (hc':∀K,ok K c->ok K c') (hct:cS c'=false) (hd:∀J,den J d=den J d') (hd':∀K,ok K d->ok K d') (hdt:cS d'=false)
  (h:an P f [.lp 0 0] [.ro (.blk oP (iL c' m n d' k)),r] K KP):an P f [.lp 0 0] [.ro (.blk oP (iL c m n d k)),r] K KP:=by
 refine DY hr (fun J=>by simp only[cells,iL,den,bp,hc,hd]) (fun K h1=>?_) rfl h
 obtain⟨⟨⟨⟨x1,x2⟩,_⟩,y,z,⟨⟨u1,u2⟩,_⟩,_⟩,v⟩:=h1;exact⟨⟨⟨⟨hc' _ x1,x2⟩,by cases c'<;>first| (simp[tg];done)|simp[cS]at hct⟩,y,z,⟨⟨hd' _ u1,u2⟩,by cases d'<;>first| (simp[tg];done)|simp[cS]at hdt⟩,trivial⟩,by simp[tg]⟩
theorem OL {P:Program} {f:Nat} {K KP:V->List aK->Prop} {mv nv kv:V} {m:br} {n:Int} {k:Key} {r:aK} (hr:r≠ .yet) (hm:Aw mv=some m) (hn:rI .i64 nv=some n) (hk:rK kv=some k)
  (h:an P f [.lp 0 0] [.ro (.blk oP (iL (.it .i64 m.code) m n (.it .i64 k.kind) k)),r] K KP):an P f [.lp 0 0] [.ro (.blk oP (.ag [mv,.lp 1 0,nv,kv])),r] K KP:=by
 obtain⟨m1,m2⟩:=CV _ _ hm;obtain⟨n1,n2⟩:=gi .i64 _ _ hn;obtain⟨k1,k2⟩:=gH _ _ hk;refine DY hr (fun J=>?_) (fun K h1=>?_) rfl h
 ·simp only[cells,iL,den,bp,m1 J,n1 J,k1 J,jG,Value.cells,dZ,i64];simp
 ·obtain⟨⟨x,y,z,u,_⟩,_⟩:=h1;obtain⟨a1,a2,a3,a4,a5,a6⟩:=(k2 K u:k.wf);exact⟨⟨fP (m2 K x),y,n2 K z,⟨⟨a1,a2,a3,a4,a5,a6,trivial⟩,by simp[tg]⟩,trivial⟩,by simp[tg,jG]⟩
def oc (a b:Int) (k:Key) (m:br):Bool:=decide (k.kind=a)&&decide (m.code=b)
theorem yw {c:Int} {k:Key} (h:k.kind=c):kk c k=k:=by subst h;rfl
theorem Is {c:Int} {m:br} (h:m.code=c):mm c m=m:=by subst h;rfl
def odX (nid:Nat):V:= .mp nid
def H6 (nid:Nat):List aK:= [.mq [[1,1],[2,1],[2,2],[2,3],[2,4],[2,5],[2,6],[3,1],[3,2],[3,3],[3,4],[3,5],[4,1],[4,2],[4,3],[4,4],[4,5],[4,6],[5,1],[5,2],[5,3],[5,4],[5,5],[5,6],[5,7],[8,1],[8,2],[8,3],[9,1],[10,1]] [.fn 143 [],.fn 145 [],.fn 149 [],.fn 151 [],.fn 154 [],.fn 156 [],.fn 157 [],.fn 158 [],.fn 159 [],.fn 161 [],.fn 163 [],.fn 156 [],.fn 210 [.lp (nid+1) 0],.fn 210 [.lp (nid+1+1) 0],.fn 166 [],.fn 168 [],.fn 170 [],.fn 171 [],.fn 172 [],.fn 175 [],.fn 176 [],.fn 178 [],.fn 179 [],.fn 180 [],.fn 181 [],.fn 182 [],.fn 183 [],.fn 187 [],.fn 189 [],.fn 190 []],.blk 70 (.ci .i64 1),.blk 70 (.ci .i64 2)]
end Go.Sx
namespace Go.Proofs.YtlblcfaclmpekaaGreat
open Go.Sx
theorem PE (k:Key) (r:Int) (hq:iI k r):
 ((!aV k||decide (r<0)||decide (7<r))=true->False)/\((!aV k||decide (r<0)||decide (7<r))=false->Key.mk k.kind k.oid k.count k.call (bm BinOp.or IntKind.i64 k.rights
   (bm BinOp.and IntKind.i64 r (fq k.kind))) k.value=jx k r):=by
 obtain⟨hk,h0,h7⟩:=hq;have hr:=je hk;refine⟨fun h=>?_,fun _=>?_⟩
 ·simp[hk]at h;omega
 obtain⟨kind,oid,count,call,rights,value⟩:=k;simp only at hr⊢;unfold jx di;by_cases h2:kind=2
 ·subst h2;have:=O9 (a:=rights) (r:=r) (by have:fq 2=7:=rfl;omega) ⟨h0,h7⟩
  simp only[if_true,show fq 2=7 from rfl,this]
 ·by_cases h3:kind=3
  ·subst h3;have:=NP (a:=rights) (r:=r) (by have:fq 3=1:=rfl;omega) ⟨h0,h7⟩
   simp only[show¬(3:Int)=2 by omega,if_false,if_true,show fq 3=1 from rfl,this]
  ·have hm:fq kind=0:=by unfold fq;simp[h2,h3]
   have hz:rights=0:=by omega
   subst hz;simp only[h2,h3,if_false,hm,KH ⟨h0,h7⟩]
theorem Es:cq Tryz.prog 201 W0:=
 eW (aA iF (aA dN bV)) (fun _=>rfl) fun a hq hok=>by
  obtain⟨k,r,_⟩:=a;exact ba (inl:=bx) (ann:=aQ) (ae Ai aq) (PE k r hq) (by kernel_rfl)
theorem N0 (k:Key) (r:Int) (hq:iI k r):
 aba (decide (k.kind=2)) (Key.mk k.kind k.oid k.count k.call (iz k.rights r) k.value=jx k r) (aba (decide (k.kind=3)) ((nU 2/\aF IntKind.i64 (r.tmod 2))/\Key.mk k.kind k.oid k.count k.call (iz k.rights (r.tmod 2)) k.value=jx k r) (k=jx k r)):=by
 delta aba
 refine⟨fun h=>?_,fun h=>⟨fun h'=>⟨⟨by unfold nU;omega,pG _⟩,?_⟩,fun h'=>?_⟩⟩
 ·unfold jx;rw[aa9 (aa6 h)];rfl
 ·unfold jx;rw[aa8 (aa5 h),aa9 (aa6 h')];rfl
 ·unfold jx;rw[aa8 (aa5 h),aa8 (aa5 h')]
theorem D6:cq Tryz.prog 113 Sh:=
 eW (aA iF (aA dN bV)) (fun _=>rfl) fun a hq hok=>by
  obtain⟨k,r,_⟩:=a;exact ba (inl:=bx) (ann:=aQ) (ae zT aq) (N0 k r hq) (by kernel_rfl)
theorem S7 (a b:Key) (ha:a.wf) (hb:b.wf):
 aba (!aV a|| !aV b) (false=kS a b) (aba (decide (a.kind=0)||yf a b) (true=kS a b) ((pw a.kind&&decide (a.kind=b.kind)&&decide (a.oid=b.oid)&&decide (a.count=b.count)&&decide (bm BinOp.andNot IntKind.i64 b.rights a.rights=0))=kS a b)):=by
 delta aba
 unfold kS;cases ha1:aV a
 ·simp
 cases hb1:aV b
 ·simp
 have hra:=je ha1;have hrb:=je hb1;refine⟨fun h=>by simp at h,fun _=>⟨fun h=>by simp only[h,Bool.true_and,Bool.true_or],fun h=>?_⟩⟩
 rw[h];simp only[Bool.true_and,Bool.false_or];by_cases hk:a.kind=b.kind
 ·by_cases h2:a.kind=2
  ·have m1:fq a.kind=7:=by rw[h2];rfl
   have m2:fq b.kind=7:=by rw[<-hk,h2];rfl
   rw[Bl (by omega) (by omega)]
   simp[pw,h2]
  ·by_cases h3:a.kind=3
   ·have m1:fq a.kind=1:=by rw[h3];rfl
    have m2:fq b.kind=1:=by rw[<-hk,h3];rfl
    rw[Bl (by omega) (by omega)]
    simp[pw,h3]
   ·simp[pw,h2,h3]
 ·simp[hk]
theorem S6:cq Tryz.prog 186 Qm:=
 nQ gH gH (fun _ _=>rfl) fun a b ha hb=>ba (inl:=bx) (ann:=aQ) (ae Ai aq) (S7 a b ha hb) (by kernel_rfl)
theorem Uh (a b:Key) (ha:a.wf) (hb:b.wf):
 aba (!decide (bw a=0)|| !decide (bw b=0)) (false=kS a b) (aba (decide (a.kind=0)||yf a b) (true=kS a b) (((decide (a.kind=2)||decide (a.kind=3))&&decide (a.kind=b.kind)&&decide (a.oid=b.oid)&&decide (a.count=b.count)&&decide (iz a.rights b.rights=a.rights))=kS a b)):=by
 delta aba
 unfold kS bw;cases ha1:aV a
 ·simp
 cases hb1:aV b
 ·simp
 refine⟨fun h=>by simp at h,fun _=>⟨fun h=>by simp only[h,Bool.true_and,Bool.true_or],fun h=>?_⟩⟩
 rw[h];simp only[Bool.true_and,Bool.false_or]
theorem Tl:cq Tryz.prog 87 Qm:=
 nQ gH gH (fun _ _=>rfl) fun a b ha hb=>ba (inl:=bx) (ann:=aQ) (ae rV (ae zT aq)) (Uh a b ha hb) (by kernel_rfl)
end Go.Proofs.YtlblcfaclmpekaaGreat
