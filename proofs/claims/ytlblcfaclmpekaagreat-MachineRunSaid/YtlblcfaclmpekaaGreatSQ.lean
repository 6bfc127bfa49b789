import Derived.Test.YtlblcfaclmpekaaGreatKS
import Derived.Test.YtlblcfaclmpekaaGreatSpP
set_option linter.unusedSimpArgs false
set_option linter.unusedVariables false
namespace Go.Sx
def xa (o:Obj):Bool:=decide (o.kind=1)&&decide ((o.slots.at 2).kind=1)&&decide (0<=(o.slots.at 2).value)&&decide ((o.slots.at 2).value<=2)
def dc (L:List Obj) (i:Int):Bool:=xa (aC L i)
def gE (L:List Obj) (i:Int):Int:=if dc L i=true then((aC L i).slots.at 2).value else 0
def bV (L:List Obj) (i:Int):Int:=if dc L i=true then((aC L i).slots.at 2).value else -1
def iQ:lR (Int×Unit):=bG iA kD
theorem SU:ij iQ:=aN fN dX
def Tc:Ct:=Cj (bG sA iQ) (fun _=>none) fun x=> .tp [.it .i64 (gE (As x.1) x.2.1),.bo (dc (As x.1) x.2.1)]
theorem Pp {L:List Obj} {i:Int} (h:i<0\/(L.length:Int)<=i):aC L i=free:=by
 unfold aC;rw[VM fun e=>by have:=mX.1 e;omega]
theorem wW (o:Obj):xa o=true↔o.kind=1/\(o.slots.at 2).kind=1/\0<=(o.slots.at 2).value/\(o.slots.at 2).value<=2:=by
 unfold xa;simp only[VG,VH,and_assoc]
theorem v8 {L:List Obj} {i:Int} (h:dc L i=false):bV L i= -1/\gE L i=0:=by
 unfold bV gE;rw[h];exact⟨rfl,rfl⟩
theorem lz {L:List Obj} {i:Int} (h:dc L i=true):bV L i=((aC L i).slots.at 2).value/\gE L i=((aC L i).slots.at 2).value:=by
 unfold bV gE;rw[h];exact⟨rfl,rfl⟩
theorem An (o:Obj):(!decide (o.kind=1)|| !decide ((o.slots.at 2).kind=1)||decide ((o.slots.at 2).value<0)||decide (2<(o.slots.at 2).value))= !xa o:=by
 have h:=wW o;cases hp:xa o with
 |true=>
  obtain⟨a,b,c,d⟩:=h.1 hp;have c':¬(o.slots.at 2).value<0:=by omega
  have d':¬2<(o.slots.at 2).value:=by omega
  simp[a,b,c',d']
 |false=>
  rw[Bool.not_false,Bool.or_eq_true,Bool.or_eq_true,Bool.or_eq_true,Bool.not_eq_true',Bool.not_eq_true',decide_eq_false_iff_not,decide_eq_false_iff_not,VH,VH];rw[hp]at h;have hn:¬(o.kind=1/\(o.slots.at 2).kind=1/\0<=(o.slots.at 2).value/\(o.slots.at 2).value<=2):=fun hh=>by have:=h.2 hh;simp at this
  omega
def eC (L:List Obj) (i st:Int):Int:=if aq L=0 then 1 else if¬(aC L i).kind=1 then 230 else if st<0\/2<st then 2 else 0
def Bk (o:Obj) (st:Int):Obj:= {o with slots:=o.slots.put 2 (c8 st)}
def iw (L:List Obj) (i st:Int):List Obj:=if eC L i st=0 then di L i.toNat (Bk (aC L i) st)else L
def Ug:lR (Int×Int×Unit):=bG iA (bG iA kD)
theorem Rq:ij Ug:=aN fN (aN fN dX)
def R7:np:=Fx (GK Ug) (fun L _=>ar L) (fun L x=> .it .i64 (eC L x.1 x.2.1)) fun L x=>iw L x.1 x.2.1
end Go.Sx
namespace Go.Sx
structure bh where
 code:Int
 data:ByteArray
 k0:Key
 k1:Key
 k2:Key
def qQ (m:bh):V:= .ag [.it .i64 m.code,.st m.data,.ag [.key m.k0,.key m.k1,.key m.k2]]
def ee:bh:=⟨0,⟨#[]⟩,void,void,void⟩
def xy (v:V):Option bh:=
 match v with
 | .ag l=>match l with
   | [a,b,c]=>match rI .i64 a with
     |some n=>match AL b with
      |some s=>match c with
       | .ag l'=>match l' with
         | [x,y,z]=>match rK x with
           |some k=>match rK y with
            |some k'=>match rK z with
             |some k''=>some ⟨n,s,k,k',k''⟩
             |none=>none
            |none=>none
           |none=>none
         |_=>none
       |_=>none
      |none=>none
     |none=>none
   |_=>none
 |_=>none
theorem yY:qV xy qQ:=by
 intro v x h;unfold xy at h;split at h
 case h_2=>simp at h
 split at h
 case h_2=>simp at h
 rename_i a b c;split at h
 case h_2=>simp at h
 rename_i n hn;split at h
 case h_2=>simp at h
 rename_i s hs;split at h
 case h_2=>simp at h
 split at h
 case h_2=>simp at h
 rename_i p q r;split at h
 case h_2=>simp at h
 rename_i k hk;split at h
 case h_2=>simp at h
 rename_i k' hk';split at h<;>simp only[VE,reduceCtorEq]at h
 rename_i k'' hk'';subst h;refine⟨fun J=>?_,fun K hK=>?_⟩
 ·simp only[den,qQ,aW,(gR .i64 _ _ hn).1 J,(uR _ _ hs).1 J,(ir _ _ hk).1 J,(ir _ _ hk').1 J,(ir _ _ hk'').1 J]
 ·obtain⟨h1,h2⟩:=hK;obtain⟨g1,g2⟩:=h1.2.2.1;exact⟨⟨(gR .i64 _ _ hn).2 K h1.1,(uR _ _ hs).2 K h1.2.1,⟨⟨(ir _ _ hk).2 K g1.1,(ir _ _ hk').2 K g1.2.1,(ir _ _ hk'').2 K g1.2.2.1,trivial⟩,by simp[qI]⟩,trivial⟩,by simp[qI]⟩
def mA:Arg bh:=AX xy qQ
theorem K4:mn mA:=p5 yY (fun _=>rfl) fun v x h=>by cases v<;>simp[xy]at h;rfl
def h9 (L:List Obj) (m:bh):Bool:=decide (cC m.data<=32)&&bQ L m.k0&&bQ L m.k1&&bQ L m.k2
def lU (L:List Obj) (m:bh):bh:=⟨m.code,m.data,ae L m.k0,ae L m.k1,ae L m.k2⟩
def E3 (s:bU) (m:bh) (a:Key):bU:=(((((s.put 2 (c8 1)).put 3 (c8 m.code)).put 12 m.k0).put 13 m.k1).put 14 m.k2).put 15 a
def J9 (s:ByteArray) (g:Int):Bytes:=uI (ey.put 0 (UInt8.ofNat s.size)) 1 g.toNat s
def wB (o:Obj) (m:bh) (a:Key):Obj:=⟨o.kind,o.count,o.calls,E3 o.slots m a,J9 m.data (cC m.data)⟩
def D0 (L:List Obj) (i:Int) (m:bh) (a:Key):List Obj:=di L i.toNat (wB (ak L i.toNat free) m a)
def cD (L:List Obj) (i:Int) (k:Key) (md:Int) (m:bh):Int:=
 if aq L=0 then 1 else if¬(1<=md/\md<=3)\/bQ L k=false\/h9 L m=false then 2 else if bV L i≠1 then 230
 else if aQ L k=false\/¬(k.kind=6\/k.kind=7)\/bV L k.oid<0 then 231
 else if(k.kind=6/\bV L k.oid≠0/\¬(md=3/\k.oid=i))\/(k.kind=7/\bV L k.oid≠2)then 232
 else if(k.kind=7/\4294967295<=(ak L k.oid.toNat free).calls)\/(md=1/\4294967295<=(ak L i.toNat free).calls)then 233 else 0
def jU (L:List Obj) (i md:Int):Key:=if md=1 then⟨7,i,(ak L i.toNat free).count,(ak L i.toNat free).calls,0,0⟩else void
def iF (md:Int):Int:=if md=1 then 2 else if md=2 then 1 else 0
def ES (L:List Obj) (i:Int) (k:Key) (md:Int) (m:bh):Prop:=
 aq L≠0/\(1<=md/\md<=3)/\bQ L k=true/\h9 L m=true/\bV L i=1/\aQ L k=true/\(k.kind=6\/k.kind=7)/\0<=bV L k.oid/\
 ¬((k.kind=6/\bV L k.oid≠0/\¬(md=3/\k.oid=i))\/(k.kind=7/\bV L k.oid≠2))/\¬(k.kind=7/\4294967295<=(ak L k.oid.toNat free).calls)
def o7 (L:List Obj) (i:Int) (k:Key) (md:Int) (m:bh):Prop:=cD L i k md m=0
def OW (o:Obj):Obj:= {o with calls:=o.calls+1}
def gB (L:List Obj) (i md:Int):List Obj:=di L i.toNat (Bk (ak L i.toNat free) (iF md))
def hJ (L:List Obj) (i:Int) (k:Key) (md:Int):List Obj:=if k.kind=7 then di (gB L i md) k.oid.toNat (OW (ak (gB L i md) k.oid.toNat free))else gB L i md
def fz (L:List Obj) (i:Int) (k:Key) (md:Int) (m:bh):List Obj:=if cD L i k md m=0 then D0 (hJ L i k md) k.oid (lU L m) (jU L i md)else L
def iY (L:List Obj) (i:Int) (m:bh):Int:=if aq L=0 then 1 else if h9 L m=false then 2 else if bV L i≠1 then 230 else 0
def j7 (L:List Obj) (i:Int) (m:bh):List Obj:=if iY L i m=0 then D0 L i (lU L m) void else L
abbrev tM:Nat:=47
def Ua:lR (Int×Key×Int×bh×Unit):=bG iA (bG kA (bG iA (bG mA kD)))
theorem Q9:ij Ua:=aN fN (aN mG (aN fN (aN K4 dX)))
def UO:lR (Int×bh×Unit):=bG iA (bG mA kD)
theorem Ro:ij UO:=aN fN (aN K4 dX)
def SK:np:=RX (GK Ua) (fun x=>aw x.2.2.2.1.data) (fun L x=>ar L/\aw x.2.2.2.1.data) (fun L x=> .it .i64 (cD L x.1 x.2.1 x.2.2.1 x.2.2.2.1)) fun L x=>fz L x.1 x.2.1 x.2.2.1 x.2.2.2.1
def Sb:np:=RX (GK UO) (fun x=>aw x.2.1.data) (fun L x=>ar L/\aw x.2.1.data) (fun L x=> .it .i64 (iY L x.1 x.2.1)) fun L x=>j7 L x.1 x.2.1
def C7:Ct:=fun res _ xs=>match xs with
 | [a]=>match rS tS eS res a with
   |some (_,L)=>match L with
    | []=>some (none,.ci .i64 0,[])
    |_=>none
   |none=>none
 |_=>none
theorem NG {P:Program} {f:Nat} (h:dC P f DF):dC P f C7:=by
 intro J fps res K w0 F0 w nid args q x new hH hargs hg hq hfr;unfold C7 at hg;split at hg
 case h_2=>simp at hg
 rename_i a;split at hg
 case h_2=>simp at hg
 rename_i o L hr;split at hg<;>simp only[VE,VF,reduceCtorEq]at hg
 obtain⟨rfl,rfl,rfl⟩:=hg;obtain⟨h1,h2⟩:=h J fps res K w0 F0 w nid [a] none (.it .i64 (ah [])) [] hH hargs (by unfold DF Rk;simp only[hr]) trivial hfr
 refine⟨h1.mono ?_,h2⟩;rintro e w' ⟨v,he,ρ',g,hv,_⟩
 refine⟨v,he,ρ',g,hv,?_⟩;simp[ok,cj]
def Vp (nid:Nat):V:= .mp nid
def Vr (nid:Nat):List aB:= [.mp .i64 [6,7] [.fn 126 [],.fn 127 []]]
def eI (L:List Obj) (g:Int):List Int:=((List.range g.toNat).filter fun(j:Nat)=>decide (bV L (j:Int)=1)).map Int.ofNat
def jk (L:List Obj) (g:Int):Prop:=0<=g/\g<=(aq L:Int)
def jb (L:List Obj):Prop:=L.length<=1000
def SH:np:=RU (bG sA kD) (fun x=>jb (As x.1)) (fun _=>true) (fun _=>gX) (fun _ n=> .sa n) fun x=> .arr (some tI) 1 (.it .i64 (eI (As x.1) (b6 (aq (As x.1)))))
end Go.Sx
set_option maxRecDepth 100000
namespace Go.Sx
theorem Im {L:List Obj} {i:Int} (h:(aC L i).kind=1):0<=i/\i<(L.length:Int)/\aC L i=ak L i.toNat free:=by
 by_cases hr:i<0\/(L.length:Int)<=i
 ·rw[Pp hr]at h;simp[free]at h
 ·exact⟨by omega,by omega,fO (by omega) (by omega)⟩
theorem qS {L:List Obj} {i:Int} (h:dc L i=true):0<=i/\i<(L.length:Int)/\aC L i=ak L i.toNat free/\(ak L i.toNat free).kind=1:=by
 have hk:=((wW _).1 h).1;obtain⟨a,b,c⟩:=Im hk;rw[c]at hk;exact⟨a,b,c,hk⟩
theorem sD {L:List Obj} {i:Int}:(0<=bV L i↔dc L i=true)/\(bV L i<0↔dc L i=false):=by
 cases h:dc L i with
 |false=>rw[(v8 h).1];simp
 |true=>
  have h2:=(lz h).1;have h3:=((wW _).1 h).2.2.1;rw[<-h2]at h3;simp;exact h3
theorem E2 {L:List Obj} {i:Int}:(dc L i&&decide (gE L i=1))=decide (bV L i=1):=by
 cases h:dc L i with
 |false=>rw[(v8 h).1];simp
 |true=>rw[(lz h).1,(lz h).2];simp
theorem Tp {L:List Obj} {i:Int} (h:dc L i=true):gE L i=bV L i:=by rw[(lz h).1,(lz h).2]
theorem JS {o:Obj} {n st:Int} (h:bq o n=true) (hk:o.kind=1):bq (Bk o st) n=true:=by
 have hn:=(ep.1 h).1;exact vG h hk (Oz (by omega) (ql h hk) (qe (by omega) _))
theorem KF {o:Obj} {n:Int} (h:bq o n=true) (hk:o.kind=1) (hc:o.calls<4294967295):bq (OW o) n=true:=by
 obtain⟨a1,a2,a3,a4,a5,a6,a7,a8,a9,a10,a11⟩:=ep.1 h;rw[ep];exact⟨a1,a2,a3,a4,a5,a6,by show 0<=o.calls+1;omega,by show o.calls+1<=4294967295;omega,.inl hk,a10,a11⟩
theorem G0 {o:Obj} {n:Int} {s:bU} {b:Bytes} (h:bq o n=true) (hk:o.kind=1) (hs:∀i,i<16->cy n (s.at i)):bq (jV (fC o s) b) n=true:=by
 have h':bq (fC o s) n=true:=vG h hk hs;have hk':(fC o s).kind=1:=hk;exact Jx h' (Or.inl hk')
theorem Dp {o:Obj} {n:Int} {m:bh} {a:Key} (h:bq o n=true) (hk:o.kind=1) (h0:cy n m.k0) (h1:cy n m.k1) (h2:cy n m.k2) (ha:cy n a):bq (wB o m a) n=true:=by
 have hn:=(ep.1 h).1
 have hs:∀i,i<16->cy n ((E3 o.slots m a).at i):=fun i hi=>by
  unfold E3;rw[bU.eX _ _ _ _ (by omega),bU.eX _ _ _ _ (by omega),bU.eX _ _ _ _ (by omega),bU.eX _ _ _ _ (by omega),bU.eX _ _ _ _ (by omega),bU.eX _ _ _ _ (by omega)]
  split
  ·exact ha
  ·split
   ·exact h2
   ·split
    ·exact h1
    ·split
     ·exact h0
     ·split
      ·exact qe (by omega) _
      ·split
       ·exact qe (by omega) _
       ·exact ql h hk i hi
 have e:wB o m a=jV (fC o (E3 o.slots m a)) (J9 m.data (cC m.data)):=by unfold wB jV fC;rfl
 rw[e];exact G0 h hk hs
theorem wV {n:Int} (hn:0<=n):cy n void:=⟨ly.1,by rw[ly.2];omega⟩
theorem N2 {n i c d:Int} (h0:0<=i) (h1:i<n) (h2:n<=64) (c0:0<=c) (c1:c<=4294967295) (d0:0<=d) (d1:d<=4294967295):cy n ⟨7,i,c,d,0,0⟩:=by
 have hk:aS ⟨7,i,c,d,0,0⟩=true:=by
  unfold aS qB gD oJ eZ ei;simp;omega
 refine⟨hk,?_⟩;unfold cO;rw[hk];simp[gD];omega
theorem Am {L:List Obj} (hL:0<L.length) (m:bh):cy (L.length:Int) (lU L m).k0/\cy (L.length:Int) (lU L m).k1/\cy (L.length:Int) (lU L m).k2:=⟨nC hL _,nC hL _,nC hL _⟩
theorem IK {s:ByteArray} (h:cC s<=32):GM (ey.put 0 (Ru (cC s))) (Int.toNat 1) (Int.toNat 64) s=J9 s (cC s):=by
 have hz:(s.size:Int)<=32:=h;have e:Nat.min s.size (64-1)=s.size:=Nat.min_eq_left (by omega)
 show uI _ 1 (Nat.min s.size (64-1)) s=uI _ 1 (cC s).toNat s
 rw[e];rfl
theorem OY {L:List Obj} {i st:Int} (h:eC L i st=0):(0<=i/\i<(L.length:Int))/\aC L i=ak L i.toNat free/\(ak L i.toNat free).kind=1/\0<=st/\st<=2:=by
 unfold eC at h;split at h
 ·omega
 ·split at h
  ·omega
  ·split at h
   ·omega
   ·rename_i h1 h2 h3;have h2:(aC L i).kind=1:=by omega
    obtain⟨a,b,c⟩:=Im h2;exact⟨⟨a,b⟩,c,by rw[<-c];exact h2,by omega,by omega⟩
theorem Dc {L:List Obj} {i st:Int} (hL:ar L):ar (iw L i st):=by
 unfold iw;split
 ·rename_i h;obtain⟨⟨a,b⟩,c,d,_⟩:=OY h;rw[c];exact jj hL (JS (cH hL _ (by omega)) d)
 ·exact hL
theorem Dh {L:List Obj} {i st e:Int} (h:eC L i st=e) (he:e≠0):e=eC L i st/\L=iw L i st:=⟨h.symm,by unfold iw;rw[h,VM he]⟩
theorem SX {L:List Obj} {i st:Int} (h:aq L=0):eC L i st=1:=by unfold eC;rw[VN h]
theorem M8 {L:List Obj} {i st:Int} (h:aq L≠0) (h2:¬(aC L i).kind=1):eC L i st=230:=by unfold eC;rw[VM h,VN h2]
theorem Te {L:List Obj} {i st:Int} (h:aq L≠0) (h2:(aC L i).kind=1) (h3:st<0\/2<st):eC L i st=2:=by unfold eC;rw[VM h,VM (by omega),VN h3]
theorem O4 {L:List Obj} {i st:Int} (h:aq L≠0) (h2:(aC L i).kind=1) (h3:¬(st<0\/2<st)):eC L i st=0:=by unfold eC;rw[VM h,VM (by omega),VM h3]
theorem Lb {L:List Obj} {i st:Int} (hL:ar L) (h:eC L i st=0):eU L i (Bk (aC L i) st)=0/\bO L i (Bk (aC L i) st)=iw L i st:=by
 obtain⟨⟨a,b⟩,c,d,_⟩:=OY h;obtain⟨p1,p2⟩:=kr a b (JS (st:=st) (cH hL _ (by omega)) d)
 rw[c,p1,p2];refine⟨rfl,?_⟩;unfold iw;rw[VN h,c]
theorem De {L:List Obj} {m:bh} (h:h9 L m=true):cC m.data<=32:=by
 unfold h9 at h;simp only[VG,VH]at h;exact h.1.1.1
section
variable {L:List Obj} {i:Int} {k:Key} {md:Int} {m:bh}
theorem SB (a:aq L=0):cD L i k md m=1:=by unfold cD;rw[VN a]
theorem DH (a:aq L≠0) (b:¬(1<=md/\md<=3)\/bQ L k=false\/h9 L m=false):cD L i k md m=2:=by unfold cD;rw[VM a,VN b]
theorem Lr (a:aq L≠0) (b:¬(¬(1<=md/\md<=3)\/bQ L k=false\/h9 L m=false)) (c:bV L i≠1):cD L i k md m=230:=by unfold cD;rw[VM a,VM b,VN c]
theorem CL (a:aq L≠0) (b:¬(¬(1<=md/\md<=3)\/bQ L k=false\/h9 L m=false)) (c:bV L i=1) (d:aQ L k=false\/¬(k.kind=6\/k.kind=7)\/bV L k.oid<0):cD L i k md m=231:=by
 unfold cD;rw[VM a,VM b,VM (by omega),VN d]
theorem C2 (a:aq L≠0) (b:¬(¬(1<=md/\md<=3)\/bQ L k=false\/h9 L m=false)) (c:bV L i=1) (d:¬(aQ L k=false\/¬(k.kind=6\/k.kind=7)\/bV L k.oid<0))
  (e:(k.kind=6/\bV L k.oid≠0/\¬(md=3/\k.oid=i))\/(k.kind=7/\bV L k.oid≠2)):cD L i k md m=232:=by
 unfold cD;rw[VM a,VM b,VM (by omega),VM d,VN e]
theorem Dl (a:aq L≠0) (b:¬(¬(1<=md/\md<=3)\/bQ L k=false\/h9 L m=false)) (c:bV L i=1) (d:¬(aQ L k=false\/¬(k.kind=6\/k.kind=7)\/bV L k.oid<0))
  (e:¬((k.kind=6/\bV L k.oid≠0/\¬(md=3/\k.oid=i))\/(k.kind=7/\bV L k.oid≠2))) (f:(k.kind=7/\4294967295<=(ak L k.oid.toNat free).calls)\/(md=1/\4294967295<=(ak L i.toNat free).calls)):cD L i k md m=233:=by
 unfold cD;rw[VM a,VM b,VM (by omega),VM d,VM e,VN f]
theorem UU (a:aq L≠0) (b:¬(¬(1<=md/\md<=3)\/bQ L k=false\/h9 L m=false)) (c:bV L i=1) (d:¬(aQ L k=false\/¬(k.kind=6\/k.kind=7)\/bV L k.oid<0))
  (e:¬((k.kind=6/\bV L k.oid≠0/\¬(md=3/\k.oid=i))\/(k.kind=7/\bV L k.oid≠2))) (f:¬((k.kind=7/\4294967295<=(ak L k.oid.toNat free).calls)\/(md=1/\4294967295<=(ak L i.toNat free).calls))):cD L i k md m=0:=by
 unfold cD;rw[VM a,VM b,VM (by omega),VM d,VM e,VM f]
theorem Po (h:cD L i k md m=0):aq L≠0/\¬(¬(1<=md/\md<=3)\/bQ L k=false\/h9 L m=false)/\bV L i=1/\¬(aQ L k=false\/¬(k.kind=6\/k.kind=7)\/bV L k.oid<0)/\
  ¬((k.kind=6/\bV L k.oid≠0/\¬(md=3/\k.oid=i))\/(k.kind=7/\bV L k.oid≠2))/\¬((k.kind=7/\4294967295<=(ak L k.oid.toNat free).calls)\/(md=1/\4294967295<=(ak L i.toNat free).calls)):=by
 by_cases a:aq L=0
 ·rw[SB a]at h;omega
 ·by_cases b:¬(1<=md/\md<=3)\/bQ L k=false\/h9 L m=false
  ·rw[DH a b]at h;omega
  ·by_cases c:bV L i=1
   ·by_cases d:aQ L k=false\/¬(k.kind=6\/k.kind=7)\/bV L k.oid<0
    ·rw[CL a b c d]at h;omega
    ·by_cases e:(k.kind=6/\bV L k.oid≠0/\¬(md=3/\k.oid=i))\/(k.kind=7/\bV L k.oid≠2)
     ·rw[C2 a b c d e]at h;omega
     ·by_cases f:(k.kind=7/\4294967295<=(ak L k.oid.toNat free).calls)\/(md=1/\4294967295<=(ak L i.toNat free).calls)
      ·rw[Dl a b c d e f]at h;omega
      ·exact⟨a,b,c,d,e,f⟩
   ·rw[Lr a b c]at h;omega
theorem mj {e:Int} (h:cD L i k md m=e) (he:e≠0):e=cD L i k md m/\L=fz L i k md m:=⟨h.symm,by unfold fz;rw[h,VM he]⟩
theorem JV (h:1<=md/\md<=3):0<=iF md/\iF md<=2/\ak [0,2,1,0] md.toNat 0=iF md/\wi (decide (md=1)) 2 (wi (decide (md=2)) 1 (wi (decide (md=3)) 0 0))=iF md:=by
 have:md=1\/md=2\/md=3:=by omega
 rcases this with rfl|rfl|rfl<;>decide
theorem A6 (hL:ar L) (hE:cD L i k md m=0):
  ((0<=i/\i<(L.length:Int))/\aC L i=ak L i.toNat free/\(ak L i.toNat free).kind=1)/\((0<=k.oid/\k.oid<(L.length:Int))/\aC L k.oid=ak L k.oid.toNat free/\(ak L k.oid.toNat free).kind=1)/\
  (eC L i (iF md)=0/\iw L i (iF md)=gB L i md)/\(ar (gB L i md)/\(gB L i md).length=L.length)/\(ar (hJ L i k md)/\(hJ L i k md).length=L.length)/\
  ((ak (gB L i md) k.oid.toNat free).kind=1/\(ak (gB L i md) k.oid.toNat free).calls=(ak L k.oid.toNat free).calls)/\(ak (hJ L i k md) k.oid.toNat free).kind=1/\cC m.data<=32/\cy (L.length:Int) (jU L i md):=by
 obtain⟨a,b,c,d,e,f⟩:=Po hE
 have b1:1<=md/\md<=3:=by
  by_cases h:1<=md/\md<=3
  ·exact h
  ·exact absurd (.inl h) b
 have b3:h9 L m=true:=by
  cases h:h9 L m with
  |true=>rfl
  |false=>exact absurd (.inr (.inr h)) b
 have d3:0<=bV L k.oid:=by
  by_cases h:bV L k.oid<0
  ·exact absurd (.inr (.inr h)) d
  ·omega
 obtain⟨i0,i1,i2,i3⟩:=qS (sD.1.1 (by omega:0<=bV L i))
 obtain⟨k0,k1,k2,k3⟩:=qS (sD.1.1 d3);obtain⟨n0,n1,_,_⟩:=JV b1;have hb:eC L i (iF md)=0:=O4 a (by rw[i2];exact i3) (by omega)
 have h1:iw L i (iF md)=gB L i md:=by unfold iw gB;rw[VN hb,i2]
 have o1:ar (gB L i md):=by rw[<-h1];exact Dc hL
 have l1:(gB L i md).length=L.length:=by unfold gB;rw[gS]
 have g1:(ak (gB L i md) k.oid.toNat free).kind=1/\(ak (gB L i md) k.oid.toNat free).calls=(ak L k.oid.toNat free).calls:=by
  unfold gB;rw[eR (by omega)]
  split
  ·rename_i e;rw[e];exact⟨i3,rfl⟩
  ·exact⟨k3,rfl⟩
 have l2:(hJ L i k md).length=L.length:=by
  unfold hJ;split
  ·rw[gS,l1]
  ·exact l1
 have o2:ar (hJ L i k md):=by
  unfold hJ;split
  ·rename_i h7;have hc:¬4294967295<=(ak L k.oid.toNat free).calls:=fun h=>f (.inl ⟨h7,h⟩)
   exact jj o1 (KF (cH o1 _ (by rw[l1];omega)) g1.1 (by rw[g1.2];omega))
  ·exact o1
 have g2:(ak (hJ L i k md) k.oid.toNat free).kind=1:=by
  unfold hJ;split
  ·rw[eR (by rw[l1];omega),VN rfl];exact g1.1
  ·exact g1.1
 have ho:=ep.1 (cH hL i.toNat (by omega))
 have hn:=(jm hL)
 have hA:cy (L.length:Int) (jU L i md):=by
  unfold jU;split
  ·exact N2 i0 i1 (by omega) ho.2.2.2.2.1 ho.2.2.2.2.2.1 ho.2.2.2.2.2.2.1 ho.2.2.2.2.2.2.2.1
  ·exact wV (by omega)
 exact⟨⟨⟨i0,i1⟩,i2,i3⟩,⟨⟨k0,k1⟩,k2,k3⟩,⟨hb,h1⟩,⟨o1,l1⟩,⟨o2,l2⟩,g1,g2,De b3,hA⟩
theorem Hc (hL:ar L) (hE:cD L i k md m=0):ar (fz L i k md m)/\(fz L i k md m).length=L.length/\bO (hJ L i k md) k.oid (wB (aC (hJ L i k md) k.oid) (lU L m) (jU L i md))=fz L i k md m:=by
 obtain⟨_,⟨⟨k0,k1⟩,_,_⟩,_,_,⟨o2,l2⟩,_,g2,_,hA⟩:=A6 hL hE;obtain⟨f0,f1,f2⟩:=Am (by have:=jm hL;omega:0<L.length) m
 have ho:=Dp (m:=lU L m) (a:=jU L i md) (cH o2 k.oid.toNat (by omega)) g2 (by rw[l2];exact f0) (by rw[l2];exact f1) (by rw[l2];exact f2) (by rw[l2];exact hA)
 have hq:fz L i k md m=di (hJ L i k md) k.oid.toNat (wB (ak (hJ L i k md) k.oid.toNat free) (lU L m) (jU L i md)):=by unfold fz D0;rw[VN hE]
 rw[hq,fO k0 (by omega)]
 exact⟨jj o2 ho,by rw[gS,l2],(kr k0 (by omega) ho).1⟩
theorem QG (hL:ar L):ar (fz L i k md m):=by
 by_cases hE:cD L i k md m=0
 ·exact(Hc hL hE).1
 ·rw[<-(mj rfl hE).2];exact hL
end
theorem Gb (L:List Obj):eI L 0= []:=rfl
theorem Fp (L:List Obj) {g:Int} (h:0<=g):eI L (g+1)=if bV L g=1 then gx (eI L g) g else eI L g:=by
 unfold eI gx;rw[show(g+1).toNat=g.toNat+1 by omega,List.range_succ,List.filter_append,List.map_append]
 have e:((g.toNat:Nat):Int)=g:=by omega
 by_cases hp:bV L g=1
 ·rw[VN hp];simp[e,hp]
 ·rw[VM hp];simp[e,hp]
theorem Bp (L:List Obj) (g:Int):aq (eI L g)<=g.toNat:=by
 unfold eI aq;rw[List.length_map];exact Nat.le_trans (List.length_filter_le _ _) (by rw[List.length_range];exact Nat.le_refl _)
theorem Kx {L:List Obj} {g:Int} (hl:jb L) (h1:g<(L.length:Int)):oR (aq (eI L g)) 8:=by
 have:=Bp L g;unfold jb at hl;unfold oR maxLen;omega
theorem Ih {L:List Obj} {g:Int} (hl:jb L) (h0:jk L g) (h1:g<(L.length:Int)):aM IntKind.i64 (g+1)/\jk L (g+1)/\(b6 (aq L)-(g+1)).toNat<(b6 (aq L)-g).toNat:=by
 unfold jb at hl;unfold jk b6 aq at *;simp only[aM,cj];omega
end Go.Sx
