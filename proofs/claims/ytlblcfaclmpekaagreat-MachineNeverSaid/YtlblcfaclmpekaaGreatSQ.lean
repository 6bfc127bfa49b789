import Derived.Test.YtlblcfaclmpekaaGreatKS
import Derived.Test.YtlblcfaclmpekaaGreatSpP
set_option linter.unusedSimpArgs false
set_option linter.unusedVariables false
namespace Go.Sx
def wx (o:Obj):Bool:=decide (o.kind=1)&&decide ((o.slots.at 2).kind=1)&&decide (0<=(o.slots.at 2).value)&&decide ((o.slots.at 2).value<=2)
def di (L:List Obj) (i:Int):Bool:=wx (au L i)
def gF (L:List Obj) (i:Int):Int:=if di L i=true then((au L i).slots.at 2).value else 0
def bV (L:List Obj) (i:Int):Int:=if di L i=true then((au L i).slots.at 2).value else -1
def iQ:mh (Int×Unit):=bE iA kz
theorem TD:iO iQ:=aM fP dM
def Ts:Ct:=CP (bE sA iQ) (fun _=>none) fun x=> .tp [.it .i64 (gF (AX x.1) x.2.1),.bo (di (AX x.1) x.2.1)]
theorem S8 {L:List Obj} {i:Int} (h:i<0\/(L.length:Int)<=i):au L i=free:=by
 unfold au;rw[Xu fun e=>by have:=k9.1 e;omega]
theorem xh (o:Obj):wx o=true↔o.kind=1/\(o.slots.at 2).kind=1/\0<=(o.slots.at 2).value/\(o.slots.at 2).value<=2:=by
 unfold wx;simp only[Xo,Xp,and_assoc]
theorem xp {L:List Obj} {i:Int} (h:di L i=false):bV L i= -1/\gF L i=0:=by
 unfold bV gF;rw[h];exact⟨rfl,rfl⟩
theorem lz {L:List Obj} {i:Int} (h:di L i=true):bV L i=((au L i).slots.at 2).value/\gF L i=((au L i).slots.at 2).value:=by
 unfold bV gF;rw[h];exact⟨rfl,rfl⟩
theorem Ae (o:Obj):(!decide (o.kind=1)|| !decide ((o.slots.at 2).kind=1)||decide ((o.slots.at 2).value<0)||decide (2<(o.slots.at 2).value))= !wx o:=by
 have h:=xh o;cases hp:wx o with
 |true=>
  obtain⟨a,b,c,d⟩:=h.1 hp;have c':¬(o.slots.at 2).value<0:=by omega
  have d':¬2<(o.slots.at 2).value:=by omega
  simp[a,b,c',d']
 |false=>
  rw[Bool.not_false,Bool.or_eq_true,Bool.or_eq_true,Bool.or_eq_true,Bool.not_eq_true',Bool.not_eq_true',decide_eq_false_iff_not,decide_eq_false_iff_not,Xp,Xp];rw[hp]at h;have hn:¬(o.kind=1/\(o.slots.at 2).kind=1/\0<=(o.slots.at 2).value/\(o.slots.at 2).value<=2):=fun hh=>by have:=h.2 hh;simp at this
  omega
def ey (L:List Obj) (i st:Int):Int:=if ak L=0 then 1 else if¬(au L i).kind=1 then 230 else if st<0\/2<st then 2 else 0
def sR (o:Obj) (st:Int):Obj:= {o with slots:=o.slots.put 2 (c8 st)}
def gZ (L:List Obj) (i st:Int):List Obj:=if ey L i st=0 then bX L i.toNat (sR (au L i) st)else L
def V3:mh (Int×Int×Unit):=bE iA (bE iA kz)
theorem RV:iO V3:=aM fP (aM fP dM)
def Un:ng:=Gu (HN V3) (fun L _=>aq L) (fun L x=> .it .i64 (ey L x.1 x.2.1)) fun L x=>gZ L x.1 x.2.1
end Go.Sx
namespace Go.Sx
structure bh where
 code:Int
 data:ByteArray
 k0:Key
 k1:Key
 k2:Key
def rk (m:bh):V:= .ag [.it .i64 m.code,.st m.data,.ag [.key m.k0,.key m.k1,.key m.k2]]
def dS:bh:=⟨0,⟨#[]⟩,void,void,void⟩
def xR (v:V):Option bh:=
 match v with
 | .ag l=>match l with
   | [a,b,c]=>match rI .i64 a with
     |some n=>match Br b with
      |some s=>match c with
       | .ag l'=>match l' with
         | [x,y,z]=>match rK x with
           |some k=>match rK y with
            |some k'=>match rK z with
             |some k''=>some ⟨n,s,k,k',k''⟩
             |none=>none
            |none=>none
           |none=>none
         |_=>none
       |_=>none
      |none=>none
     |none=>none
   |_=>none
 |_=>none
theorem zI:rH xR rk:=by
 intro v x h;unfold xR at h;split at h
 case h_2=>simp at h
 split at h
 case h_2=>simp at h
 rename_i a b c;split at h
 case h_2=>simp at h
 rename_i n hn;split at h
 case h_2=>simp at h
 rename_i s hs;split at h
 case h_2=>simp at h
 split at h
 case h_2=>simp at h
 rename_i p q r;split at h
 case h_2=>simp at h
 rename_i k hk;split at h
 case h_2=>simp at h
 rename_i k' hk';split at h<;>simp only[Xm,reduceCtorEq]at h
 rename_i k'' hk'';subst h;refine⟨fun J=>?_,fun K hK=>?_⟩
 ·simp only[den,rk,aU,(gi .i64 _ _ hn).1 J,(vA _ _ hs).1 J,(gW _ _ hk).1 J,(gW _ _ hk').1 J,(gW _ _ hk'').1 J]
 ·obtain⟨h1,h2⟩:=hK;obtain⟨g1,g2⟩:=h1.2.2.1;exact⟨⟨(gi .i64 _ _ hn).2 K h1.1,(vA _ _ hs).2 K h1.2.1,⟨⟨(gW _ _ hk).2 K g1.1,(gW _ _ hk').2 K g1.2.1,(gW _ _ hk'').2 K g1.2.2.1,trivial⟩,by simp[ra]⟩,trivial⟩,by simp[ra]⟩
def mA:Arg bh:=BW xR rk
theorem KZ:lg mA:=qm zI (fun _=>rfl) fun v x h=>by cases v<;>simp[xR]at h;rfl
def ie (L:List Obj) (m:bh):Bool:=decide (cE m.data<=32)&&bQ L m.k0&&bQ L m.k1&&bQ L m.k2
def ld (L:List Obj) (m:bh):bh:=⟨m.code,m.data,ae L m.k0,ae L m.k1,ae L m.k2⟩
def Eo (s:bJ) (m:bh) (a:Key):bJ:=(((((s.put 2 (c8 1)).put 3 (c8 m.code)).put 12 m.k0).put 13 m.k1).put 14 m.k2).put 15 a
def Lb (s:ByteArray) (g:Int):Bytes:=vb (dV.put 0 (UInt8.ofNat s.size)) 1 g.toNat s
def oP (o:Obj) (m:bh) (a:Key):Obj:=⟨o.kind,o.count,o.calls,Eo o.slots m a,Lb m.data (cE m.data)⟩
def Bs (L:List Obj) (i:Int) (m:bh) (a:Key):List Obj:=bX L i.toNat (oP (ai L i.toNat free) m a)
def b8 (L:List Obj) (i:Int) (k:Key) (md:Int) (m:bh):Int:=
 if ak L=0 then 1 else if¬(1<=md/\md<=3)\/bQ L k=false\/ie L m=false then 2 else if bV L i≠1 then 230
 else if aI L k=false\/¬(k.kind=6\/k.kind=7)\/bV L k.oid<0 then 231
 else if(k.kind=6/\bV L k.oid≠0/\¬(md=3/\k.oid=i))\/(k.kind=7/\bV L k.oid≠2)then 232
 else if(k.kind=7/\4294967295<=(ai L k.oid.toNat free).calls)\/(md=1/\4294967295<=(ai L i.toNat free).calls)then 233 else 0
def jK (L:List Obj) (i md:Int):Key:=if md=1 then⟨7,i,(ai L i.toNat free).count,(ai L i.toNat free).calls,0,0⟩else void
def iK (md:Int):Int:=if md=1 then 2 else if md=2 then 1 else 0
def FC (L:List Obj) (i:Int) (k:Key) (md:Int) (m:bh):Prop:=
 ak L≠0/\(1<=md/\md<=3)/\bQ L k=true/\ie L m=true/\bV L i=1/\aI L k=true/\(k.kind=6\/k.kind=7)/\0<=bV L k.oid/\
 ¬((k.kind=6/\bV L k.oid≠0/\¬(md=3/\k.oid=i))\/(k.kind=7/\bV L k.oid≠2))/\¬(k.kind=7/\4294967295<=(ai L k.oid.toNat free).calls)
def pc (L:List Obj) (i:Int) (k:Key) (md:Int) (m:bh):Prop:=b8 L i k md m=0
def Ce (o:Obj):Obj:= {o with calls:=o.calls+1}
def gw (L:List Obj) (i md:Int):List Obj:=bX L i.toNat (sR (ai L i.toNat free) (iK md))
def ga (L:List Obj) (i:Int) (k:Key) (md:Int):List Obj:=if k.kind=7 then bX (gw L i md) k.oid.toNat (Ce (ai (gw L i md) k.oid.toNat free))else gw L i md
def eN (L:List Obj) (i:Int) (k:Key) (md:Int) (m:bh):List Obj:=if b8 L i k md m=0 then Bs (ga L i k md) k.oid (ld L m) (jK L i md)else L
def jh (L:List Obj) (i:Int) (m:bh):Int:=if ak L=0 then 1 else if ie L m=false then 2 else if bV L i≠1 then 230 else 0
def jF (L:List Obj) (i:Int) (m:bh):List Obj:=if jh L i m=0 then Bs L i (ld L m) void else L
abbrev tM:Nat:=47
def VM:mh (Int×Key×Int×bh×Unit):=bE iA (bE kA (bE iA (bE mA kz)))
theorem QK:iO VM:=aM fP (aM mL (aM fP (aM KZ dM)))
def VS:mh (Int×bh×Unit):=bE iA (bE mA kz)
theorem Ss:iO VS:=aM fP (aM KZ dM)
def TF:ng:=Tk (HN VM) (fun x=>aw x.2.2.2.1.data) (fun L x=>aq L/\aw x.2.2.2.1.data) (fun L x=> .it .i64 (b8 L x.1 x.2.1 x.2.2.1 x.2.2.2.1)) fun L x=>eN L x.1 x.2.1 x.2.2.1 x.2.2.2.1
def TX:ng:=Tk (HN VS) (fun x=>aw x.2.1.data) (fun L x=>aq L/\aw x.2.1.data) (fun L x=> .it .i64 (jh L x.1 x.2.1)) fun L x=>jF L x.1 x.2.1
def DL:Ct:=fun res _ xs=>match xs with
 | [a]=>match rS tS eS res a with
   |some (_,L)=>match L with
    | []=>some (none,.ci .i64 0,[])
    |_=>none
   |none=>none
 |_=>none
theorem NZ {P:Program} {f:Nat} (h:cV P f Dp):cV P f DL:=by
 intro J fps res K w0 F0 w nid args q x new hH hargs hg hq hfr;unfold DL at hg;split at hg
 case h_2=>simp at hg
 rename_i a;split at hg
 case h_2=>simp at hg
 rename_i o L hr;split at hg<;>simp only[Xm,Xn,reduceCtorEq]at hg
 obtain⟨rfl,rfl,rfl⟩:=hg;obtain⟨h1,h2⟩:=h J fps res K w0 F0 w nid [a] none (.it .i64 (ah [])) [] hH hargs (by unfold Dp Sc;simp only[hr]) trivial hfr
 refine⟨h1.mono ?_,h2⟩;rintro e w' ⟨v,he,ρ',g,hv,_⟩
 refine⟨v,he,ρ',g,hv,?_⟩;simp[ok,cg]
def W5 (nid:Nat):V:= .mp nid
def W7 (nid:Nat):List aA:= [.mp .i64 [6,7] [.fn 126 [],.fn 127 []]]
def eH (L:List Obj) (g:Int):List Int:=((List.range g.toNat).filter fun(j:Nat)=>decide (bV L (j:Int)=1)).map Int.ofNat
def jr (L:List Obj) (g:Int):Prop:=0<=g/\g<=(ak L:Int)
def jn (L:List Obj):Prop:=L.length<=1000
def Ue:ng:=Ry (bE sA kz) (fun x=>jn (AX x.1)) (fun _=>true) (fun _=>gJ) (fun _ n=> .sa n) fun x=> .arr (some tI) 1 (.it .i64 (eH (AX x.1) (bH (ak (AX x.1)))))
end Go.Sx
set_option maxRecDepth 100000
namespace Go.Sx
theorem Il {L:List Obj} {i:Int} (h:(au L i).kind=1):0<=i/\i<(L.length:Int)/\au L i=ai L i.toNat free:=by
 by_cases hr:i<0\/(L.length:Int)<=i
 ·rw[S8 hr]at h;simp[free]at h
 ·exact⟨by omega,by omega,fu (by omega) (by omega)⟩
theorem rF {L:List Obj} {i:Int} (h:di L i=true):0<=i/\i<(L.length:Int)/\au L i=ai L i.toNat free/\(ai L i.toNat free).kind=1:=by
 have hk:=((xh _).1 h).1;obtain⟨a,b,c⟩:=Il hk;rw[c]at hk;exact⟨a,b,c,hk⟩
theorem si {L:List Obj} {i:Int}:(0<=bV L i↔di L i=true)/\(bV L i<0↔di L i=false):=by
 cases h:di L i with
 |false=>rw[(xp h).1];simp
 |true=>
  have h2:=(lz h).1;have h3:=((xh _).1 h).2.2.1;rw[<-h2]at h3;simp;exact h3
theorem Eu {L:List Obj} {i:Int}:(di L i&&decide (gF L i=1))=decide (bV L i=1):=by
 cases h:di L i with
 |false=>rw[(xp h).1];simp
 |true=>rw[(lz h).1,(lz h).2];simp
theorem TN {L:List Obj} {i:Int} (h:di L i=true):gF L i=bV L i:=by rw[(lz h).1,(lz h).2]
theorem Ko {o:Obj} {n st:Int} (h:bf o n=true) (hk:o.kind=1):bf (sR o st) n=true:=by
 have hn:=(cO.1 h).1;exact xm h hk (NV (by omega) (qu h hk) (qz (by omega) _))
theorem I3 {o:Obj} {n:Int} (h:bf o n=true) (hk:o.kind=1) (hc:o.calls<4294967295):bf (Ce o) n=true:=by
 obtain⟨a1,a2,a3,a4,a5,a6,a7,a8,a9,a10,a11⟩:=cO.1 h;rw[cO];exact⟨a1,a2,a3,a4,a5,a6,by show 0<=o.calls+1;omega,by show o.calls+1<=4294967295;omega,.inl hk,a10,a11⟩
theorem KX {o:Obj} {n:Int} {s:bJ} {b:Bytes} (h:bf o n=true) (hk:o.kind=1) (hs:∀i,i<16->cA n (s.at i)):bf (jY (fH o s) b) n=true:=by
 have h':bf (fH o s) n=true:=xm h hk hs;have hk':(fH o s).kind=1:=hk;exact LY h' (Or.inl hk')
theorem Dw {o:Obj} {n:Int} {m:bh} {a:Key} (h:bf o n=true) (hk:o.kind=1) (h0:cA n m.k0) (h1:cA n m.k1) (h2:cA n m.k2) (ha:cA n a):bf (oP o m a) n=true:=by
 have hn:=(cO.1 h).1
 have hs:∀i,i<16->cA n ((Eo o.slots m a).at i):=fun i hi=>by
  unfold Eo;rw[bJ.fb _ _ _ _ (by omega),bJ.fb _ _ _ _ (by omega),bJ.fb _ _ _ _ (by omega),bJ.fb _ _ _ _ (by omega),bJ.fb _ _ _ _ (by omega),bJ.fb _ _ _ _ (by omega)]
  split
  ·exact ha
  ·split
   ·exact h2
   ·split
    ·exact h1
    ·split
     ·exact h0
     ·split
      ·exact qz (by omega) _
      ·split
       ·exact qz (by omega) _
       ·exact qu h hk i hi
 have e:oP o m a=jY (fH o (Eo o.slots m a)) (Lb m.data (cE m.data)):=by unfold oP jY fH;rfl
 rw[e];exact KX h hk hs
theorem wh {n:Int} (hn:0<=n):cA n void:=⟨lv.1,by rw[lv.2];omega⟩
theorem O2 {n i c d:Int} (h0:0<=i) (h1:i<n) (h2:n<=64) (c0:0<=c) (c1:c<=4294967295) (d0:0<=d) (d1:d<=4294967295):cA n ⟨7,i,c,d,0,0⟩:=by
 have hk:aN ⟨7,i,c,d,0,0⟩=true:=by
  unfold aN jl c9 ft eO ec;simp;omega
 refine⟨hk,?_⟩;unfold bF;rw[hk];simp[c9];omega
theorem Al {L:List Obj} (hL:0<L.length) (m:bh):cA (L.length:Int) (ld L m).k0/\cA (L.length:Int) (ld L m).k1/\cA (L.length:Int) (ld L m).k2:=⟨nt hL _,nt hL _,nt hL _⟩
theorem K4 {s:ByteArray} (h:cE s<=32):Hy (dV.put 0 (Sh (cE s))) (Int.toNat 1) (Int.toNat 64) s=Lb s (cE s):=by
 have hz:(s.size:Int)<=32:=h;have e:Nat.min s.size (64-1)=s.size:=Nat.min_eq_left (by omega)
 show vb _ 1 (Nat.min s.size (64-1)) s=vb _ 1 (cE s).toNat s
 rw[e];rfl
theorem Qv {L:List Obj} {i st:Int} (h:ey L i st=0):(0<=i/\i<(L.length:Int))/\au L i=ai L i.toNat free/\(ai L i.toNat free).kind=1/\0<=st/\st<=2:=by
 unfold ey at h;split at h
 ·omega
 ·split at h
  ·omega
  ·split at h
   ·omega
   ·rename_i h1 h2 h3;have h2:(au L i).kind=1:=by omega
    obtain⟨a,b,c⟩:=Il h2;exact⟨⟨a,b⟩,c,by rw[<-c];exact h2,by omega,by omega⟩
theorem DZ {L:List Obj} {i st:Int} (hL:aq L):aq (gZ L i st):=by
 unfold gZ;split
 ·rename_i h;obtain⟨⟨a,b⟩,c,d,_⟩:=Qv h;rw[c];exact jS hL (Ko (cm hL _ (by omega)) d)
 ·exact hL
theorem CW {L:List Obj} {i st e:Int} (h:ey L i st=e) (he:e≠0):e=ey L i st/\L=gZ L i st:=⟨h.symm,by unfold gZ;rw[h,Xu he]⟩
theorem Uw {L:List Obj} {i st:Int} (h:ak L=0):ey L i st=1:=by unfold ey;rw[Xv h]
theorem OM {L:List Obj} {i st:Int} (h:ak L≠0) (h2:¬(au L i).kind=1):ey L i st=230:=by unfold ey;rw[Xu h,Xv h2]
theorem Ub {L:List Obj} {i st:Int} (h:ak L≠0) (h2:(au L i).kind=1) (h3:st<0\/2<st):ey L i st=2:=by unfold ey;rw[Xu h,Xu (by omega),Xv h3]
theorem QA {L:List Obj} {i st:Int} (h:ak L≠0) (h2:(au L i).kind=1) (h3:¬(st<0\/2<st)):ey L i st=0:=by unfold ey;rw[Xu h,Xu (by omega),Xu h3]
theorem LM {L:List Obj} {i st:Int} (hL:aq L) (h:ey L i st=0):ei L i (sR (au L i) st)=0/\bN L i (sR (au L i) st)=gZ L i st:=by
 obtain⟨⟨a,b⟩,c,d,_⟩:=Qv h;obtain⟨p1,p2⟩:=ki a b (Ko (st:=st) (cm hL _ (by omega)) d)
 rw[c,p1,p2];refine⟨rfl,?_⟩;unfold gZ;rw[Xv h,c]
theorem DR {L:List Obj} {m:bh} (h:ie L m=true):cE m.data<=32:=by
 unfold ie at h;simp only[Xo,Xp]at h;exact h.1.1.1
section
variable {L:List Obj} {i:Int} {k:Key} {md:Int} {m:bh}
theorem UC (a:ak L=0):b8 L i k md m=1:=by unfold b8;rw[Xv a]
theorem DW (a:ak L≠0) (b:¬(1<=md/\md<=3)\/bQ L k=false\/ie L m=false):b8 L i k md m=2:=by unfold b8;rw[Xu a,Xv b]
theorem Ks (a:ak L≠0) (b:¬(¬(1<=md/\md<=3)\/bQ L k=false\/ie L m=false)) (c:bV L i≠1):b8 L i k md m=230:=by unfold b8;rw[Xu a,Xu b,Xv c]
theorem D0 (a:ak L≠0) (b:¬(¬(1<=md/\md<=3)\/bQ L k=false\/ie L m=false)) (c:bV L i=1) (d:aI L k=false\/¬(k.kind=6\/k.kind=7)\/bV L k.oid<0):b8 L i k md m=231:=by
 unfold b8;rw[Xu a,Xu b,Xu (by omega),Xv d]
theorem Dh (a:ak L≠0) (b:¬(¬(1<=md/\md<=3)\/bQ L k=false\/ie L m=false)) (c:bV L i=1) (d:¬(aI L k=false\/¬(k.kind=6\/k.kind=7)\/bV L k.oid<0))
  (e:(k.kind=6/\bV L k.oid≠0/\¬(md=3/\k.oid=i))\/(k.kind=7/\bV L k.oid≠2)):b8 L i k md m=232:=by
 unfold b8;rw[Xu a,Xu b,Xu (by omega),Xu d,Xv e]
theorem DK (a:ak L≠0) (b:¬(¬(1<=md/\md<=3)\/bQ L k=false\/ie L m=false)) (c:bV L i=1) (d:¬(aI L k=false\/¬(k.kind=6\/k.kind=7)\/bV L k.oid<0))
  (e:¬((k.kind=6/\bV L k.oid≠0/\¬(md=3/\k.oid=i))\/(k.kind=7/\bV L k.oid≠2))) (f:(k.kind=7/\4294967295<=(ai L k.oid.toNat free).calls)\/(md=1/\4294967295<=(ai L i.toNat free).calls)):b8 L i k md m=233:=by
 unfold b8;rw[Xu a,Xu b,Xu (by omega),Xu d,Xu e,Xv f]
theorem Wi (a:ak L≠0) (b:¬(¬(1<=md/\md<=3)\/bQ L k=false\/ie L m=false)) (c:bV L i=1) (d:¬(aI L k=false\/¬(k.kind=6\/k.kind=7)\/bV L k.oid<0))
  (e:¬((k.kind=6/\bV L k.oid≠0/\¬(md=3/\k.oid=i))\/(k.kind=7/\bV L k.oid≠2))) (f:¬((k.kind=7/\4294967295<=(ai L k.oid.toNat free).calls)\/(md=1/\4294967295<=(ai L i.toNat free).calls))):b8 L i k md m=0:=by
 unfold b8;rw[Xu a,Xu b,Xu (by omega),Xu d,Xu e,Xu f]
theorem Sj (h:b8 L i k md m=0):ak L≠0/\¬(¬(1<=md/\md<=3)\/bQ L k=false\/ie L m=false)/\bV L i=1/\¬(aI L k=false\/¬(k.kind=6\/k.kind=7)\/bV L k.oid<0)/\
  ¬((k.kind=6/\bV L k.oid≠0/\¬(md=3/\k.oid=i))\/(k.kind=7/\bV L k.oid≠2))/\¬((k.kind=7/\4294967295<=(ai L k.oid.toNat free).calls)\/(md=1/\4294967295<=(ai L i.toNat free).calls)):=by
 by_cases a:ak L=0
 ·rw[UC a]at h;omega
 ·by_cases b:¬(1<=md/\md<=3)\/bQ L k=false\/ie L m=false
  ·rw[DW a b]at h;omega
  ·by_cases c:bV L i=1
   ·by_cases d:aI L k=false\/¬(k.kind=6\/k.kind=7)\/bV L k.oid<0
    ·rw[D0 a b c d]at h;omega
    ·by_cases e:(k.kind=6/\bV L k.oid≠0/\¬(md=3/\k.oid=i))\/(k.kind=7/\bV L k.oid≠2)
     ·rw[Dh a b c d e]at h;omega
     ·by_cases f:(k.kind=7/\4294967295<=(ai L k.oid.toNat free).calls)\/(md=1/\4294967295<=(ai L i.toNat free).calls)
      ·rw[DK a b c d e f]at h;omega
      ·exact⟨a,b,c,d,e,f⟩
   ·rw[Ks a b c]at h;omega
theorem lh {e:Int} (h:b8 L i k md m=e) (he:e≠0):e=b8 L i k md m/\L=eN L i k md m:=⟨h.symm,by unfold eN;rw[h,Xu he]⟩
theorem HY (h:1<=md/\md<=3):0<=iK md/\iK md<=2/\ai [0,2,1,0] md.toNat 0=iK md/\w7 (decide (md=1)) 2 (w7 (decide (md=2)) 1 (w7 (decide (md=3)) 0 0))=iK md:=by
 have:md=1\/md=2\/md=3:=by omega
 rcases this with rfl|rfl|rfl<;>decide
theorem sB (hL:aq L) (hE:b8 L i k md m=0):
  ((0<=i/\i<(L.length:Int))/\au L i=ai L i.toNat free/\(ai L i.toNat free).kind=1)/\((0<=k.oid/\k.oid<(L.length:Int))/\au L k.oid=ai L k.oid.toNat free/\(ai L k.oid.toNat free).kind=1)/\
  (ey L i (iK md)=0/\gZ L i (iK md)=gw L i md)/\(aq (gw L i md)/\(gw L i md).length=L.length)/\(aq (ga L i k md)/\(ga L i k md).length=L.length)/\
  ((ai (gw L i md) k.oid.toNat free).kind=1/\(ai (gw L i md) k.oid.toNat free).calls=(ai L k.oid.toNat free).calls)/\(ai (ga L i k md) k.oid.toNat free).kind=1/\cE m.data<=32/\cA (L.length:Int) (jK L i md):=by
 obtain⟨a,b,c,d,e,f⟩:=Sj hE
 have b1:1<=md/\md<=3:=by
  by_cases h:1<=md/\md<=3
  ·exact h
  ·exact absurd (.inl h) b
 have b3:ie L m=true:=by
  cases h:ie L m with
  |true=>rfl
  |false=>exact absurd (.inr (.inr h)) b
 have d3:0<=bV L k.oid:=by
  by_cases h:bV L k.oid<0
  ·exact absurd (.inr (.inr h)) d
  ·omega
 obtain⟨i0,i1,i2,i3⟩:=rF (si.1.1 (by omega:0<=bV L i))
 obtain⟨k0,k1,k2,k3⟩:=rF (si.1.1 d3);obtain⟨n0,n1,_,_⟩:=HY b1;have hb:ey L i (iK md)=0:=QA a (by rw[i2];exact i3) (by omega)
 have h1:gZ L i (iK md)=gw L i md:=by unfold gZ gw;rw[Xv hb,i2]
 have o1:aq (gw L i md):=by rw[<-h1];exact DZ hL
 have l1:(gw L i md).length=L.length:=by unfold gw;rw[eT]
 have g1:(ai (gw L i md) k.oid.toNat free).kind=1/\(ai (gw L i md) k.oid.toNat free).calls=(ai L k.oid.toNat free).calls:=by
  unfold gw;rw[dA (by omega)]
  split
  ·rename_i e;rw[e];exact⟨i3,rfl⟩
  ·exact⟨k3,rfl⟩
 have l2:(ga L i k md).length=L.length:=by
  unfold ga;split
  ·rw[eT,l1]
  ·exact l1
 have o2:aq (ga L i k md):=by
  unfold ga;split
  ·rename_i h7;have hc:¬4294967295<=(ai L k.oid.toNat free).calls:=fun h=>f (.inl ⟨h7,h⟩)
   exact jS o1 (I3 (cm o1 _ (by rw[l1];omega)) g1.1 (by rw[g1.2];omega))
  ·exact o1
 have g2:(ai (ga L i k md) k.oid.toNat free).kind=1:=by
  unfold ga;split
  ·rw[dA (by rw[l1];omega),Xv rfl];exact g1.1
  ·exact g1.1
 have ho:=cO.1 (cm hL i.toNat (by omega))
 have hn:=(gf hL)
 have hA:cA (L.length:Int) (jK L i md):=by
  unfold jK;split
  ·exact O2 i0 i1 (by omega) ho.2.2.2.2.1 ho.2.2.2.2.2.1 ho.2.2.2.2.2.2.1 ho.2.2.2.2.2.2.2.1
  ·exact wh (by omega)
 exact⟨⟨⟨i0,i1⟩,i2,i3⟩,⟨⟨k0,k1⟩,k2,k3⟩,⟨hb,h1⟩,⟨o1,l1⟩,⟨o2,l2⟩,g1,g2,DR b3,hA⟩
theorem Mi (hL:aq L) (hE:b8 L i k md m=0):aq (eN L i k md m)/\(eN L i k md m).length=L.length/\bN (ga L i k md) k.oid (oP (au (ga L i k md) k.oid) (ld L m) (jK L i md))=eN L i k md m:=by
 obtain⟨_,⟨⟨k0,k1⟩,_,_⟩,_,_,⟨o2,l2⟩,_,g2,_,hA⟩:=sB hL hE;obtain⟨f0,f1,f2⟩:=Al (by have:=gf hL;omega:0<L.length) m
 have ho:=Dw (m:=ld L m) (a:=jK L i md) (cm o2 k.oid.toNat (by omega)) g2 (by rw[l2];exact f0) (by rw[l2];exact f1) (by rw[l2];exact f2) (by rw[l2];exact hA)
 have hq:eN L i k md m=bX (ga L i k md) k.oid.toNat (oP (ai (ga L i k md) k.oid.toNat free) (ld L m) (jK L i md)):=by unfold eN Bs;rw[Xv hE]
 rw[hq,fu k0 (by omega)]
 exact⟨jS o2 ho,by rw[eT,l2],(ki k0 (by omega) ho).1⟩
theorem Q5 (hL:aq L):aq (eN L i k md m):=by
 by_cases hE:b8 L i k md m=0
 ·exact(Mi hL hE).1
 ·rw[<-(lh rfl hE).2];exact hL
end
theorem GR (L:List Obj):eH L 0= []:=rfl
theorem Hc (L:List Obj) {g:Int} (h:0<=g):eH L (g+1)=if bV L g=1 then gD (eH L g) g else eH L g:=by
 unfold eH gD;rw[show(g+1).toNat=g.toNat+1 by omega,List.range_succ,List.filter_append,List.map_append]
 have e:((g.toNat:Nat):Int)=g:=by omega
 by_cases hp:bV L g=1
 ·rw[Xv hp];simp[e,hp]
 ·rw[Xu hp];simp[e,hp]
theorem CG (L:List Obj) (g:Int):ak (eH L g)<=g.toNat:=by
 unfold eH ak;rw[List.length_map];exact Nat.le_trans (List.length_filter_le _ _) (by rw[List.length_range];exact Nat.le_refl _)
theorem H7 {L:List Obj} {g:Int} (hl:jn L) (h1:g<(L.length:Int)):qN (ak (eH L g)) 8:=by
 have:=CG L g;unfold jn at hl;unfold qN maxLen;omega
theorem Kh {L:List Obj} {g:Int} (hl:jn L) (h0:jr L g) (h1:g<(L.length:Int)):aL IntKind.i64 (g+1)/\jr L (g+1)/\(bH (ak L)-(g+1)).toNat<(bH (ak L)-g).toNat:=by
 unfold jn at hl;unfold jr bH ak at *;simp only[aL,cg];omega
end Go.Sx
