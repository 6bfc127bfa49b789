import Derived.Test.YtmfbohanboiklaaGreatMa12
set_option linter.unusedSimpArgs false
set_option linter.unusedVariables false
set_option maxRecDepth 100000
namespace Go.Sx
def AB(o:Obj):Bool:=decide (o.kind=1)&&decide ((o.slots.at 2).kind=1)&&decide (0<=(o.slots.at 2).value)&&decide ((o.slots.at 2).value<=2)
def eu(L:List Obj)(i:Int):Bool:=AB (aQ L i)
def jb(L:List Obj)(i:Int):Int:=if eu L i=true then((aQ L i).slots.at 2).value else 0
def c9(L:List Obj)(i:Int):Int:=if eu L i=true then((aQ L i).slots.at 2).value else -1
def iQ:lb (Int×Unit):=bJ iA jP
theorem acQ:ji iQ:=ba fx dq
def acj:Ct:=FN (bJ sA iQ) (fun _=>none) fun x=> .tp [.it .i64 (jb (vP x.1) x.2.1),.bo (eu (vP x.1) x.2.1)]
theorem Y4{L:List Obj}{i:Int}(h:i<0\/(L.length:Int)<=i):aQ L i=free:=by
 unfold aQ;rw[aq fun e=>by have:=jr.1 e;omega]
theorem zR(o:Obj):AB o=true↔o.kind=1/\(o.slots.at 2).kind=1/\0<=(o.slots.at 2).value/\(o.slots.at 2).value<=2:=by
 unfold AB;simp only[af,ah,and_assoc]
theorem zX{L:List Obj}{i:Int}(h:eu L i=false):c9 L i= -1/\jb L i=0:=by
 unfold c9 jb;rw[h];exact⟨rfl,rfl⟩
theorem nm{L:List Obj}{i:Int}(h:eu L i=true):c9 L i=((aQ L i).slots.at 2).value/\jb L i=((aQ L i).slots.at 2).value:=by
 unfold c9 jb;rw[h];exact⟨rfl,rfl⟩
theorem CN(o:Obj):(!decide (o.kind=1)|| !decide ((o.slots.at 2).kind=1)||decide ((o.slots.at 2).value<0)||decide (2<(o.slots.at 2).value))= !AB o:=by
 have h:=zR o;cases hp:AB o with
 |true=>
  obtain⟨a,b,c,d⟩:=h.1 hp;have c':¬(o.slots.at 2).value<0:=by omega
  have d':¬2<(o.slots.at 2).value:=by omega
  simp[a,b,c',d']
 |false=>
  rw[Bool.not_false,Bool.or_eq_true,Bool.or_eq_true,Bool.or_eq_true,Bool.not_eq_true',Bool.not_eq_true',decide_eq_false_iff_not,decide_eq_false_iff_not,ah,ah];rw[hp]at h;have hn:¬(o.kind=1/\(o.slots.at 2).kind=1/\0<=(o.slots.at 2).value/\(o.slots.at 2).value<=2):=fun hh=>by have:=h.2 hh;simp at this
  omega
def fB(L:List Obj)(i st:Int):Int:=if aK L=0 then 1 else if¬(aQ L i).kind=1 then 230 else if st<0\/2<st then 2 else 0
def uX(o:Obj)(st:Int):Obj:= {o with slots:=o.slots.put 2 (dR st)}
def iz(L:List Obj)(i st:Int):List Obj:=if fB L i st=0 then eQ L i.toNat (uX (aQ L i) st)else L
def iiQ:lb (Int×Int×Unit):=bJ iA (bJ iA jP)
theorem XK:ji iiQ:=ba fx (ba fx dq)
def abw:lg:=LC (Mw iiQ) (fun L _=>aO L) (fun L x=> .it .i64 (fB L x.1 x.2.1)) fun L x=>iz L x.1 x.2.1
structure bK where
 code:Int
 data:ByteArray
 k0:Key
 k1:Key
 k2:Key
def tU(m:bK):V:= .ag [.it .i64 m.code,.st m.data,.ag [.key m.k0,.key m.k1,.key m.k2]]
def fm:bK:=⟨0,⟨#[]⟩,void,void,void⟩
def A7(v:V):Option bK:=
 match v with
 | .ag l=>match l with
   | [a,b,c]=>match rI .i64 a with
     |some n=>match Ga b with
      |some s=>match c with
       | .ag l'=>match l' with
         | [x,y,z]=>match rK x with
           |some k=>match rK y with
            |some k'=>match rK z with
             |some k''=>some ⟨n,s,k,k',k''⟩
             |none=>none
            |none=>none
           |none=>none
         |_=>none
       |_=>none
      |none=>none
     |none=>none
   |_=>none
 |_=>none
theorem CT:tG A7 tU:=by
 intro v x h;unfold A7 at h;split at h
 case h_2=>simp at h
 split at h
 case h_2=>simp at h
 rename_i a b c;split at h
 case h_2=>simp at h
 rename_i n hn;split at h
 case h_2=>simp at h
 rename_i s hs;split at h
 case h_2=>simp at h
 split at h
 case h_2=>simp at h
 rename_i p q r;split at h
 case h_2=>simp at h
 rename_i k hk;split at h
 case h_2=>simp at h
 rename_i k' hk';split at h<;>simp only[aa,reduceCtorEq]at h
 rename_i k'' hk'';subst h;refine⟨fun J=>?_,fun K hK=>?_⟩
 ·simp only[den,tU,br,(iO .i64 _ _ hn).1 J,(yf _ _ hs).1 J,(iF _ _ hk).1 J,(iF _ _ hk').1 J,(iF _ _ hk'').1 J]
 ·obtain⟨h1,h2⟩:=hK;obtain⟨g1,g2⟩:=h1.2.2.1;exact⟨⟨(iO .i64 _ _ hn).2 K h1.1,(yf _ _ hs).2 K h1.2.1,⟨⟨(iF _ _ hk).2 K g1.1,(iF _ _ hk').2 K g1.2.1,(iF _ _ hk'').2 K g1.2.2.1,trivial⟩,by simp[qS]⟩,trivial⟩,by simp[qS]⟩
def mA:Arg bK:=EX A7 tU
theorem QA:lU mA:=sH CT (fun _=>rfl) fun v x h=>by cases v<;>simp[A7]at h;rfl
def jL(L:List Obj)(m:bK):Bool:=decide (dJ m.data<=32)&&cS L m.k0&&cS L m.k1&&cS L m.k2
def jS(L:List Obj)(m:bK):bK:=⟨m.code,m.data,aI L m.k0,aI L m.k1,aI L m.k2⟩
def zM(s:ck)(m:bK)(a:Key):ck:=(((((s.put 2 (dR 1)).put 3 (dR m.code)).put 12 m.k0).put 13 m.k1).put 14 m.k2).put 15 a
def R6(s:ByteArray)(g:Int):Bytes:=xT (fK.put 0 (UInt8.ofNat s.size)) 1 g.toNat s
def lT(o:Obj)(m:bK)(a:Key):Obj:=⟨o.kind,o.count,o.calls,zM o.slots m a,R6 m.data (dJ m.data)⟩
def zr(L:List Obj)(i:Int)(m:bK)(a:Key):List Obj:=eQ L i.toNat (lT (aL L i.toNat free) m a)
def dw(L:List Obj)(i:Int)(k:Key)(md:Int)(m:bK):Int:=
 if aK L=0 then 1 else if¬(1<=md/\md<=3)\/cS L k=false\/jL L m=false then 2 else if c9 L i≠1 then 230
 else if bk L k=false\/¬(k.kind=6\/k.kind=7)\/c9 L k.oid<0 then 231
 else if(k.kind=6/\c9 L k.oid≠0/\¬(md=3/\k.oid=i))\/(k.kind=7/\c9 L k.oid≠2)then 232
 else if(k.kind=7/\4294967295<=(aL L k.oid.toNat free).calls)\/(md=1/\4294967295<=(aL L i.toNat free).calls)then 233 else 0
def jG(L:List Obj)(i md:Int):Key:=if md=1 then⟨7,i,(aL L i.toNat free).count,(aL L i.toNat free).calls,0,0⟩else void
def jW(md:Int):Int:=if md=1 then 2 else if md=2 then 1 else 0
def Jt(L:List Obj)(i:Int)(k:Key)(md:Int)(m:bK):Prop:=
 aK L≠0/\(1<=md/\md<=3)/\cS L k=true/\jL L m=true/\c9 L i=1/\bk L k=true/\(k.kind=6\/k.kind=7)/\0<=c9 L k.oid/\
 ¬((k.kind=6/\c9 L k.oid≠0/\¬(md=3/\k.oid=i))\/(k.kind=7/\c9 L k.oid≠2))/\¬(k.kind=7/\4294967295<=(aL L k.oid.toNat free).calls)
def sm(L:List Obj)(i:Int)(k:Key)(md:Int)(m:bK):Prop:=dw L i k md m=0
def EP(o:Obj):Obj:= {o with calls:=o.calls+1}
def iB(L:List Obj)(i md:Int):List Obj:=eQ L i.toNat (uX (aL L i.toNat free) (jW md))
def gC(L:List Obj)(i:Int)(k:Key)(md:Int):List Obj:=if k.kind=7 then eQ (iB L i md) k.oid.toNat (EP (aL (iB L i md) k.oid.toNat free))else iB L i md
def fV(L:List Obj)(i:Int)(k:Key)(md:Int)(m:bK):List Obj:=if dw L i k md m=0 then zr (gC L i k md) k.oid (jS L m) (jG L i md)else L
def kK(L:List Obj)(i:Int)(m:bK):Int:=if aK L=0 then 1 else if jL L m=false then 2 else if c9 L i≠1 then 230 else 0
def ko(L:List Obj)(i:Int)(m:bK):List Obj:=if kK L i m=0 then zr L i (jS L m) void else L
abbrev tM:Nat:=66
def ivB:lb (Int×Key×Int×bK×Unit):=bJ iA (bJ kA (bJ iA (bJ mA jP)))
theorem YR:ji ivB:=ba fx (ba nX (ba fx (ba QA dq)))
def anB:lb (Int×bK×Unit):=bJ iA (bJ mA jP)
theorem Zb:ji anB:=ba fx (ba QA dq)
def abW:lg:=hSr (Mw ivB) (fun x=>aU x.2.2.2.1.data) (fun L x=>aO L/\aU x.2.2.2.1.data) (fun L x=> .it .i64 (dw L x.1 x.2.1 x.2.2.1 x.2.2.2.1)) fun L x=>fV L x.1 x.2.1 x.2.2.1 x.2.2.2.1
def abh:lg:=hSr (Mw anB) (fun x=>aU x.2.1.data) (fun L x=>aO L/\aU x.2.1.data) (fun L x=> .it .i64 (kK L x.1 x.2.1)) fun L x=>ko L x.1 x.2.1
def G9:Ct:=fun res _ xs=>match xs with
 | [a]=>match rS tS eS res a with
   |some (_,L)=>match L with
    | []=>some (none,.ci .i64 0,[])
    |_=>none
   |none=>none
 |_=>none
theorem Wm[Fen]{P:Program}{f:Nat}(h:dO P f HR):dO P f G9:=by
 intro J fps res K w0 F0 w nid args q x new hH hargs hg hq hfr;unfold G9 at hg;split at hg
 case h_2=>simp at hg
 rename_i a;split at hg
 case h_2=>simp at hg
 rename_i o L hr;split at hg<;>simp only[aa,ae,reduceCtorEq]at hg
 obtain⟨rfl,rfl,rfl⟩:=hg;obtain⟨h1,h2⟩:=h J fps res K w0 F0 w nid [a] none (.it .i64 (aJ [])) [] hH hargs (by unfold HR mkS;simp only[hr]) trivial hfr
 refine⟨h1.mono ?_,h2⟩;rintro e w' ⟨v,he,ρ',g,hv,_⟩
 refine⟨v,he,ρ',g,hv,?_⟩;simp[ok,cB]
def kdX(nid:Nat):V:= .mp nid
def kdN(nid:Nat):List aS:= [.mp .i64 [6,7] [.fn 106 [],.fn 107 []]]
def fH(L:List Obj)(g:Int):List Int:=((List.range g.toNat).filter fun(j:Nat)=>decide (c9 L (j:Int)=1)).map Int.ofNat
def kP(L:List Obj)(g:Int):Prop:=0<=g/\g<=(aK L:Int)
def kF(L:List Obj):Prop:=L.length<=1000
def abC:lg:=QB (bJ sA jP) (fun x=>kF (vP x.1)) (fun _=>true) (fun _=>lX) (fun _ n=> .sa n) fun x=> .arr (some tI) 1 (.it .i64 (fH (vP x.1) (bV (aK (vP x.1)))))
theorem MM{L:List Obj}{i:Int}(h:(aQ L i).kind=1):0<=i/\i<(L.length:Int)/\aQ L i=aL L i.toNat free:=by
 by_cases hr:i<0\/(L.length:Int)<=i
 ·rw[Y4 hr]at h;simp[free]at h
 ·exact⟨by omega,by omega,ij (by omega) (by omega)⟩
theorem uf{L:List Obj}{i:Int}(h:eu L i=true):0<=i/\i<(L.length:Int)/\aQ L i=aL L i.toNat free/\(aL L i.toNat free).kind=1:=by
 have hk:=((zR _).1 h).1;obtain⟨a,b,c⟩:=MM hk;rw[c]at hk;exact⟨a,b,c,hk⟩
theorem uQ{L:List Obj}{i:Int}:(0<=c9 L i↔eu L i=true)/\(c9 L i<0↔eu L i=false):=by
 cases h:eu L i with
 |false=>rw[(zX h).1];simp
 |true=>
  have h2:=(nm h).1;have h3:=((zR _).1 h).2.2.1;rw[<-h2]at h3;simp;exact h3
theorem JV{L:List Obj}{i:Int}:(eu L i&&decide (jb L i=1))=decide (c9 L i=1):=by
 cases h:eu L i with
 |false=>rw[(zX h).1];simp
 |true=>rw[(nm h).1,(nm h).2];simp
theorem aa9{L:List Obj}{i:Int}(h:eu L i=true):jb L i=c9 L i:=by rw[(nm h).1,(nm h).2]
theorem Rl{o:Obj}{n st:Int}(h:bS o n=true)(hk:o.kind=1):bS (uX o st) n=true:=by
 have hn:=(dK.1 h).1;exact Az h hk (UN (by omega) (sw h hk) (sY (by omega) _))
theorem Po{o:Obj}{n:Int}(h:bS o n=true)(hk:o.kind=1)(hc:o.calls<4294967295):bS (EP o) n=true:=by
 obtain⟨a1,a2,a3,a4,a5,a6,a7,a8,a9,a10,a11⟩:=dK.1 h;rw[dK];exact⟨a1,a2,a3,a4,a5,a6,by show 0<=o.calls+1;omega,by show o.calls+1<=4294967295;omega,.inl hk,a10,a11⟩
theorem OM{o:Obj}{n:Int}{s:ck}{b:Bytes}(h:bS o n=true)(hk:o.kind=1)(hs:∀i,i<16->dG n (s.at i)):bS (lC (gY o s) b) n=true:=by
 have h':bS (gY o s) n=true:=Az h hk hs;have hk':(gY o s).kind=1:=hk;exact Oe h' (Or.inl hk')
theorem HE{o:Obj}{n:Int}{m:bK}{a:Key}(h:bS o n=true)(hk:o.kind=1)(h0:dG n m.k0)(h1:dG n m.k1)(h2:dG n m.k2)(ha:dG n a):bS (lT o m a) n=true:=by
 have hn:=(dK.1 h).1
 have hs:∀i,i<16->dG n ((zM o.slots m a).at i):=fun i hi=>by
  unfold zM;rw[ck.gg _ _ _ _ (by omega),ck.gg _ _ _ _ (by omega),ck.gg _ _ _ _ (by omega),ck.gg _ _ _ _ (by omega),ck.gg _ _ _ _ (by omega),ck.gg _ _ _ _ (by omega)]
  split
  ·exact ha
  ·split
   ·exact h2
   ·split
    ·exact h1
    ·split
     ·exact h0
     ·split
      ·exact sY (by omega) _
      ·split
       ·exact sY (by omega) _
       ·exact sw h hk i hi
 have e:lT o m a=lC (gY o (zM o.slots m a)) (R6 m.data (dJ m.data)):=by unfold lT lC gY;rfl
 rw[e];exact OM h hk hs
theorem zk{n:Int}(hn:0<=n):dG n void:=⟨nh.1,by rw[nh.2];omega⟩
theorem Tj{n i c d:Int}(h0:0<=i)(h1:i<n)(h2:n<=64)(c0:0<=c)(c1:c<=4294967295)(d0:0<=d)(d1:d<=4294967295):dG n ⟨7,i,c,d,0,0⟩:=by
 have hk:aR ⟨7,i,c,d,0,0⟩=true:=by
  unfold aR jc cG fD eH dg;simp;omega
 refine⟨hk,?_⟩;unfold cx;rw[hk];simp[cG];omega
theorem DO{L:List Obj}(hL:0<L.length)(m:bK):dG (L.length:Int) (jS L m).k0/\dG (L.length:Int) (jS L m).k1/\dG (L.length:Int) (jS L m).k2:=⟨pk hL _,pk hL _,pk hL _⟩
theorem Pe{s:ByteArray}(h:dJ s<=32):My (fK.put 0 (Z3 (dJ s))) (Int.toNat 1) (Int.toNat 64) s=R6 s (dJ s):=by
 have hz:(s.size:Int)<=32:=h;have e:Nat.min s.size (64-1)=s.size:=Nat.min_eq_left (by omega)
 show xT _ 1 (Nat.min s.size (64-1)) s=xT _ 1 (dJ s).toNat s
 rw[e];rfl
theorem Xr{L:List Obj}{i st:Int}(h:fB L i st=0):(0<=i/\i<(L.length:Int))/\aQ L i=aL L i.toNat free/\(aL L i.toNat free).kind=1/\0<=st/\st<=2:=by
 unfold fB at h;split at h
 ·omega
 ·split at h
  ·omega
  ·split at h
   ·omega
   ·rename_i h1 h2 h3;have h2:(aQ L i).kind=1:=by omega
    obtain⟨a,b,c⟩:=MM h2;exact⟨⟨a,b⟩,c,by rw[<-c];exact h2,by omega,by omega⟩
theorem HX{L:List Obj}{i st:Int}(hL:aO L):aO (iz L i st):=by
 unfold iz;split
 ·rename_i h;obtain⟨⟨a,b⟩,c,d,_⟩:=Xr h;rw[c];exact lk hL (Rl (dA hL _ (by omega)) d)
 ·exact hL
theorem HS{L:List Obj}{i st e:Int}(h:fB L i st=e)(he:e≠0):e=fB L i st/\L=iz L i st:=⟨h.symm,by unfold iz;rw[h,aq he]⟩
theorem abM{L:List Obj}{i st:Int}(h:aK L=0):fB L i st=1:=by unfold fB;rw[ar h]
theorem VM{L:List Obj}{i st:Int}(h:aK L≠0)(h2:¬(aQ L i).kind=1):fB L i st=230:=by unfold fB;rw[aq h,ar h2]
theorem ab9{L:List Obj}{i st:Int}(h:aK L≠0)(h2:(aQ L i).kind=1)(h3:st<0\/2<st):fB L i st=2:=by unfold fB;rw[aq h,aq (by omega),ar h3]
theorem XG{L:List Obj}{i st:Int}(h:aK L≠0)(h2:(aQ L i).kind=1)(h3:¬(st<0\/2<st)):fB L i st=0:=by unfold fB;rw[aq h,aq (by omega),aq h3]
theorem Rf{L:List Obj}{i st:Int}(hL:aO L)(h:fB L i st=0):fC L i (uX (aQ L i) st)=0/\cV L i (uX (aQ L i) st)=iz L i st:=by
 obtain⟨⟨a,b⟩,c,d,_⟩:=Xr h;obtain⟨p1,p2⟩:=mn a b (Rl (st:=st) (dA hL _ (by omega)) d)
 rw[c,p1,p2];refine⟨rfl,?_⟩;unfold iz;rw[ar h,c]
theorem HP{L:List Obj}{m:bK}(h:jL L m=true):dJ m.data<=32:=by
 unfold jL at h;simp only[af,ah]at h;exact h.1.1.1
section
variable {L:List Obj} {i:Int} {k:Key} {md:Int} {m:bK}
theorem abD(a:aK L=0):dw L i k md m=1:=by unfold dw;rw[ar a]
theorem Hm(a:aK L≠0)(b:¬(1<=md/\md<=3)\/cS L k=false\/jL L m=false):dw L i k md m=2:=by unfold dw;rw[aq a,ar b]
theorem OY(a:aK L≠0)(b:¬(¬(1<=md/\md<=3)\/cS L k=false\/jL L m=false))(c:c9 L i≠1):dw L i k md m=230:=by unfold dw;rw[aq a,aq b,ar c]
theorem HA(a:aK L≠0)(b:¬(¬(1<=md/\md<=3)\/cS L k=false\/jL L m=false))(c:c9 L i=1)(d:bk L k=false\/¬(k.kind=6\/k.kind=7)\/c9 L k.oid<0):dw L i k md m=231:=by
 unfold dw;rw[aq a,aq b,aq (by omega),ar d]
theorem GP(a:aK L≠0)(b:¬(¬(1<=md/\md<=3)\/cS L k=false\/jL L m=false))(c:c9 L i=1)(d:¬(bk L k=false\/¬(k.kind=6\/k.kind=7)\/c9 L k.oid<0))
  (e:(k.kind=6/\c9 L k.oid≠0/\¬(md=3/\k.oid=i))\/(k.kind=7/\c9 L k.oid≠2)):dw L i k md m=232:=by
 unfold dw;rw[aq a,aq b,aq (by omega),aq d,ar e]
theorem G2(a:aK L≠0)(b:¬(¬(1<=md/\md<=3)\/cS L k=false\/jL L m=false))(c:c9 L i=1)(d:¬(bk L k=false\/¬(k.kind=6\/k.kind=7)\/c9 L k.oid<0))
  (e:¬((k.kind=6/\c9 L k.oid≠0/\¬(md=3/\k.oid=i))\/(k.kind=7/\c9 L k.oid≠2))) (f:(k.kind=7/\4294967295<=(aL L k.oid.toNat free).calls)\/(md=1/\4294967295<=(aL L i.toNat free).calls)):dw L i k md m=233:=by
 unfold dw;rw[aq a,aq b,aq (by omega),aq d,aq e,ar f]
theorem ac5(a:aK L≠0)(b:¬(¬(1<=md/\md<=3)\/cS L k=false\/jL L m=false))(c:c9 L i=1)(d:¬(bk L k=false\/¬(k.kind=6\/k.kind=7)\/c9 L k.oid<0))
  (e:¬((k.kind=6/\c9 L k.oid≠0/\¬(md=3/\k.oid=i))\/(k.kind=7/\c9 L k.oid≠2))) (f:¬((k.kind=7/\4294967295<=(aL L k.oid.toNat free).calls)\/(md=1/\4294967295<=(aL L i.toNat free).calls))):dw L i k md m=0:=by
 unfold dw;rw[aq a,aq b,aq (by omega),aq d,aq e,aq f]
theorem YT(h:dw L i k md m=0):aK L≠0/\¬(¬(1<=md/\md<=3)\/cS L k=false\/jL L m=false)/\c9 L i=1/\¬(bk L k=false\/¬(k.kind=6\/k.kind=7)\/c9 L k.oid<0)/\
  ¬((k.kind=6/\c9 L k.oid≠0/\¬(md=3/\k.oid=i))\/(k.kind=7/\c9 L k.oid≠2))/\¬((k.kind=7/\4294967295<=(aL L k.oid.toNat free).calls)\/(md=1/\4294967295<=(aL L i.toNat free).calls)):=by
 by_cases a:aK L=0
 ·rw[abD a]at h;omega
 ·by_cases b:¬(1<=md/\md<=3)\/cS L k=false\/jL L m=false
  ·rw[Hm a b]at h;omega
  ·by_cases c:c9 L i=1
   ·by_cases d:bk L k=false\/¬(k.kind=6\/k.kind=7)\/c9 L k.oid<0
    ·rw[HA a b c d]at h;omega
    ·by_cases e:(k.kind=6/\c9 L k.oid≠0/\¬(md=3/\k.oid=i))\/(k.kind=7/\c9 L k.oid≠2)
     ·rw[GP a b c d e]at h;omega
     ·by_cases f:(k.kind=7/\4294967295<=(aL L k.oid.toNat free).calls)\/(md=1/\4294967295<=(aL L i.toNat free).calls)
      ·rw[G2 a b c d e f]at h;omega
      ·exact⟨a,b,c,d,e,f⟩
   ·rw[OY a b c]at h;omega
theorem nb{e:Int}(h:dw L i k md m=e)(he:e≠0):e=dw L i k md m/\L=fV L i k md m:=⟨h.symm,by unfold fV;rw[h,aq he]⟩
theorem PI(h:1<=md/\md<=3):0<=jW md/\jW md<=2/\aL [0,2,1,0] md.toNat 0=jW md/\Af (decide (md=1)) 2 (Af (decide (md=2)) 1 (Af (decide (md=3)) 0 0))=jW md:=by
 have:md=1\/md=2\/md=3:=by omega
 rcases this with rfl|rfl|rfl<;>decide
theorem u7(hL:aO L)(hE:dw L i k md m=0):
 ((0<=i/\i<(L.length:Int))/\aQ L i=aL L i.toNat free/\(aL L i.toNat free).kind=1)/\((0<=k.oid/\k.oid<(L.length:Int))/\aQ L k.oid=aL L k.oid.toNat free/\(aL L k.oid.toNat free).kind=1)/\(fB L i (jW md)=0/\iz L i (jW md)=iB L i md)/\(aO (iB L i md)/\(iB L i md).length=L.length)/\(aO (gC L i k md)/\(gC L i k md).length=L.length)/\((aL (iB L i md) k.oid.toNat free).kind=1/\(aL (iB L i md) k.oid.toNat free).calls=(aL L k.oid.toNat free).calls)/\(aL (gC L i k md) k.oid.toNat free).kind=1/\dJ m.data<=32/\dG (L.length:Int) (jG L i md):=by
 obtain⟨a,b,c,d,e,f⟩:=YT hE
 have b1:1<=md/\md<=3:=by
  by_cases h:1<=md/\md<=3
  ·exact h
  ·exact absurd (.inl h) b
 have b3:jL L m=true:=by
  cases h:jL L m with
  |true=>rfl
  |false=>exact absurd (.inr (.inr h)) b
 have d3:0<=c9 L k.oid:=by
  by_cases h:c9 L k.oid<0
  ·exact absurd (.inr (.inr h)) d
  ·omega
 obtain⟨i0,i1,i2,i3⟩:=uf (uQ.1.1 (by omega:0<=c9 L i))
 obtain⟨k0,k1,k2,k3⟩:=uf (uQ.1.1 d3);obtain⟨n0,n1,_,_⟩:=PI b1;have hb:fB L i (jW md)=0:=XG a (by rw[i2];exact i3) (by omega)
 have h1:iz L i (jW md)=iB L i md:=by unfold iz iB;rw[ar hb,i2]
 have o1:aO (iB L i md):=by rw[<-h1];exact HX hL
 have l1:(iB L i md).length=L.length:=by unfold iB;rw[fN]
 have g1:(aL (iB L i md) k.oid.toNat free).kind=1/\(aL (iB L i md) k.oid.toNat free).calls=(aL L k.oid.toNat free).calls:=by
  unfold iB;rw[dE (by omega)]
  split
  ·rename_i e;rw[e];exact⟨i3,rfl⟩
  ·exact⟨k3,rfl⟩
 have l2:(gC L i k md).length=L.length:=by
  unfold gC;split
  ·rw[fN,l1]
  ·exact l1
 have o2:aO (gC L i k md):=by
  unfold gC;split
  ·rename_i h7;have hc:¬4294967295<=(aL L k.oid.toNat free).calls:=fun h=>f (.inl ⟨h7,h⟩)
   exact lk o1 (Po (dA o1 _ (by rw[l1];omega)) g1.1 (by rw[g1.2];omega))
  ·exact o1
 have g2:(aL (gC L i k md) k.oid.toNat free).kind=1:=by
  unfold gC;split
  ·rw[dE (by rw[l1];omega),ar rfl];exact g1.1
  ·exact g1.1
 have ho:=dK.1 (dA hL i.toNat (by omega))
 have hn:=(fJ hL)
 have hA:dG (L.length:Int) (jG L i md):=by
  unfold jG;split
  ·exact Tj i0 i1 (by omega) ho.2.2.2.2.1 ho.2.2.2.2.2.1 ho.2.2.2.2.2.2.1 ho.2.2.2.2.2.2.2.1
  ·exact zk (by omega)
 exact⟨⟨⟨i0,i1⟩,i2,i3⟩,⟨⟨k0,k1⟩,k2,k3⟩,⟨hb,h1⟩,⟨o1,l1⟩,⟨o2,l2⟩,g1,g2,HP b3,hA⟩
theorem RJ(hL:aO L)(hE:dw L i k md m=0):aO (fV L i k md m)/\(fV L i k md m).length=L.length/\cV (gC L i k md) k.oid (lT (aQ (gC L i k md) k.oid) (jS L m) (jG L i md))=fV L i k md m:=by
 obtain⟨_,⟨⟨k0,k1⟩,_,_⟩,_,_,⟨o2,l2⟩,_,g2,_,hA⟩:=u7 hL hE;obtain⟨f0,f1,f2⟩:=DO (by have:=fJ hL;omega:0<L.length) m
 have ho:=HE (m:=jS L m) (a:=jG L i md) (dA o2 k.oid.toNat (by omega)) g2 (by rw[l2];exact f0) (by rw[l2];exact f1) (by rw[l2];exact f2) (by rw[l2];exact hA)
 have hq:fV L i k md m=eQ (gC L i k md) k.oid.toNat (lT (aL (gC L i k md) k.oid.toNat free) (jS L m) (jG L i md)):=by unfold fV zr;rw[ar hE]
 rw[hq,ij k0 (by omega)]
 exact⟨lk o2 ho,by rw[fN,l2],(mn k0 (by omega) ho).1⟩
theorem Zj(hL:aO L):aO (fV L i k md m):=by
 by_cases hE:dw L i k md m=0
 ·exact(RJ hL hE).1
 ·rw[<-(nb rfl hE).2];exact hL
end
theorem Bd(L:List Obj):fH L 0= []:=rfl
theorem BF(L:List Obj){g:Int}(h:0<=g):fH L (g+1)=if c9 L g=1 then dn (fH L g) g else fH L g:=by
 unfold fH dn;rw[show(g+1).toNat=g.toNat+1 by omega,List.range_succ,List.filter_append,List.map_append]
 have e:((g.toNat:Nat):Int)=g:=by omega
 by_cases hp:c9 L g=1
 ·rw[ar hp];simp[e,hp]
 ·rw[aq hp];simp[e,hp]
theorem Et(L:List Obj)(g:Int):aK (fH L g)<=g.toNat:=by
 unfold fH aK;rw[List.length_map];exact Nat.le_trans (List.length_filter_le _ _) (by rw[List.length_range];exact Nat.le_refl _)
theorem SG{L:List Obj}{g:Int}(hl:kF L)(h1:g<(L.length:Int)):lr (aK (fH L g)) 8:=by
 have:=Et L g;unfold kF at hl;unfold lr maxLen;omega
theorem Qj{L:List Obj}{g:Int}(hl:kF L)(h0:kP L g)(h1:g<(L.length:Int)):bh IntKind.i64 (g+1)/\kP L (g+1)/\(bV (aK L)-(g+1)).toNat<(bV (aK L)-g).toNat:=by
 unfold kF at hl;unfold kP bV aK at *;simp only[bh,cB];omega
end Go.Sx
namespace Go.Proofs.YtmfbohanboiklaaGreat
open Go.Sx
theorem Uh(i:Int):
 true=true/\au (!decide ((aQ [] i).kind=1)|| !decide (((aQ [] i).slots.at 2).kind=1)||decide (((aQ [] i).slots.at 2).value<0)||decide (2<((aQ [] i).slots.at 2).value)) (0=jb [] i/\false=eu [] i) (((aQ [] i).slots.at 2).value=jb [] i/\true=eu [] i):=by
 delta au
 have e:=CN (aQ [] i);rw[e];refine⟨rfl,fun h=>?_,fun h=>?_⟩
 ·have h:eu [] i=false:=by unfold eu;simpa using h
  exact⟨(zX h).2.symm,h.symm⟩
 ·have h:eu [] i=true:=by unfold eu;simpa using h
  exact⟨(nm h).2.symm,h.symm⟩
theorem YS(L:List Sx.Obj)(i:Int):
 true=true/\au (!decide ((aQ L i).kind=1)|| !decide (((aQ L i).slots.at 2).kind=1)||decide (((aQ L i).slots.at 2).value<0)||decide (2<((aQ L i).slots.at 2).value)) (0=jb L i/\false=eu L i) (((aQ L i).slots.at 2).value=jb L i/\true=eu L i):=by
 delta au
 have e:=CN (aQ L i);rw[e];refine⟨rfl,fun h=>?_,fun h=>?_⟩
 ·have h:eu L i=false:=by unfold eu;simpa using h
  exact⟨(zX h).2.symm,h.symm⟩
 ·have h:eu L i=true:=by unfold eu;simpa using h
  exact⟨(nm h).2.symm,h.symm⟩
theorem rH[Fen]:dO Tryz.prog 65 acj:=
 kW (ba tq acQ) (fun _=>rfl) fun a hq hok=>by
  obtain⟨S,i,_⟩:=a;cases S with
  |none=>exact bP (inl:=(aeq [80])) (ann:=bn) (aH fi aP) (Uh i) (by kernel_rfl)
  |some L=>exact bP (inl:=(aeq [80])) (ann:=bn) (aH fi aP) (YS L i) (by kernel_rfl)
theorem Wu(i st:Int):
 aw (au (!decide (0<aJ [])) (1=fB [] i st) (aw (au (!decide ((aQ [] i).kind=1)) (230=fB [] i st) (aw (au (!(decide (0<=st)&&decide (st<=2))) (2=fB [] i st) (aw (aw (fC [] i (Obj.mk (aQ [] i).kind (aQ [] i).count (aQ [] i).calls ((aQ [] i).slots.put 2 (aA st)) (aQ [] i).bytes)=fB [] i st)))))))):=by
 delta au aA aw
 exact⟨rfl,fun h=>rfl,fun h=>absurd h (by decide)⟩
theorem V8(i st:Int):
 aw (au (!decide (0<aJ [])) (1=fB [] i st) (aw (au (!decide ((aQ [] i).kind=1)) (230=fB [] i st) (aw (au (!(decide (0<=st)&&decide (st<=2))) (2=fB [] i st) (aw (aw False))))))):=by
 delta au aw
 exact⟨rfl,fun h=>rfl,fun h=>absurd h (by decide)⟩
abbrev adz(L:List Sx.Obj)(i:Int)(st:Int):=Obj.mk (aQ L i).kind (aQ L i).count (aQ L i).calls ((aQ L i).slots.put 2 (aA st)) (aQ L i).bytes
theorem XV(L:List Sx.Obj)(i st:Int)(hL:aO L):
 aw (au (!decide (0<aJ L)) (1=fB L i st/\L=iz L i st) (aw (au (!decide ((aQ L i).kind=1)) (230=fB L i st/\L=iz L i st) (aw (au (!(decide (0<=st)&&decide (st<=2))) (2=fB L i st/\L=iz L i st) (aw (aw (fC L i (adz L i st)=fB L i st/\cV L i (adz L i st)=iz L i st)))))))):=by
 delta au aA adz aw
 have hq:∀b,(!decide (0<aJ L))=b->(b=true->aK L=0)/\(b=false->aK L≠0):=fun b hb=>by
  subst hb;refine⟨fun h=>?_,fun h=>?_⟩
  ·have h1:¬0<aJ L:=by simpa using h
   unfold aJ at h1;omega
  ·have h1:0<aJ L:=by simpa using h
   unfold aJ at h1;omega
 refine⟨rfl,fun h=>HS (abM ((hq _ h).1 rfl)) (by omega),fun h=>⟨rfl,fun h2=>?_,fun h2=>⟨rfl,fun h3=>?_,fun h3=>⟨rfl,rfl,?_⟩⟩⟩⟩
 ·exact HS (VM ((hq _ h).2 rfl) (by simpa using h2)) (by omega)
 ·exact HS (ab9 ((hq _ h).2 rfl) (by simpa using h2) (by simp only[Bool.not_eq_true',Bool.and_eq_false_iff,decide_eq_false_iff_not]at h3;omega)) (by omega)
 ·have hE:fB L i st=0:=XG ((hq _ h).2 rfl) (by simpa using h2) (by simp only[Bool.not_eq_false',af,ah]at h3;omega)
  rw[hE];exact Rf hL hE
theorem ZO[Fen](L:List Sx.Obj)(i st:Int)(hL:aO L):aM Tryz.prog 67 [.lp 0 0,.it .i64 i,.it .i64 st] [.store tS eS L] (Bb (.it .i64 (fB L i st)) (iz L i st)) (fun _ _=>False):=
 bm (inl:=(aeq [83,90])) (ann:=bn) (aH bF (aH fi aP)) (aW dI aT) (ek lB) (XV L i st hL) (by kernel_rfl)
theorem PE[Fen]:l5 Tryz.prog 67 abw:=
 nZ (m:=fun x=>iiQ.cn x 0) (pc XK (fun _=>rfl)) (fun _=>rfl) (fun _ _=>rfl) (fun x=>bm (inl:=(aeq [83,90])) (ann:=bn) (aH bF (aH fi aP)) (aW dI aT) (ek lB) (Wu x.1 x.2.1) (by kernel_rfl)) (fun x=>bm (inl:=(aeq [83,90])) (ann:=bn) (aH bF (aH fi aP)) (aW dI aT) (ek lB) (V8 x.1 x.2.1) (by kernel_rfl)) fun L x hL _ _=>ZO L x.1 x.2.1 hL
theorem Mc:
 ∀(nid:Nat),some (V.mp nid)=some (V.mp nid)/\some [aS.mp IntKind.i64 [6,7] [V.fn 106 [],V.fn 107 []]]=some [aS.mp IntKind.i64
  [6,7] [V.fn 106 [],V.fn 107 []]]:=by
 exact fun nid=>⟨rfl,rfl⟩
theorem wX[Fen]:dO Tryz.prog 87 (BR kdX kdN):=vB (π:= [0]) (by decide) (fun _=>rfl) (bU (inl:=cH) (ann:=bn) aP aT Mc (by kernel_rfl))
theorem sO[Fen]:dO Tryz.prog 29 G9:=Wm bF
theorem Vo(i:Int)(m:bK)(hs:aU m.data):
 true=true/\1=kK [] i m:=by
 exact⟨rfl,rfl⟩
theorem WQ(i:Int)(m:bK)(hs:aU m.data):
 true=true/\1=kK [] i m:=by
 exact⟨rfl,rfl⟩
theorem aaq(L:List Sx.Obj)(i:Int)(m:bK)(hL:aO L)(hs:aU m.data):
 aw (au (!decide (0<aJ L)) (1=kK L i m/\L=ko L i m) (aw (az (dJ m.data)/\aw (au (!decide (dJ m.data<=32)) (2=kK L i m/\L=ko L i m) (aw (aw (au (!(decide (bO m.k0=0)&&(!bc m.k0||decide (cz m.k0<aJ L)))) (2=kK L i m/\L=ko L i m) (aw (aw (au (!(decide (bO m.k1=0)&&(!bc m.k1||decide (cz m.k1<aJ L)))) (2=kK L i m/\L=ko L i m) (aw (aw (au (!(decide (bO m.k2=0)&&(!bc m.k2||decide (cz m.k2<aJ L)))) (2=kK L i m/\L=ko L i m) (aw (au (!(eu L i&&decide (jb L i=1))) (230=kK L i m/\L=ko L i m) (aw (aw (aw (aw (aw (az (dJ m.data)/\bh IntKind.u8 (dJ m.data)/\Bk 1 64 64/\aw (0=kK L i m/\cV L i (Obj.mk (aQ L i).kind (aQ L i).count (aQ L i).calls (((((((aQ L i).slots.put 2 (aA 1)).put 3 (aA m.code)).put 12 (aI L m.k0)).put 13 (aI L m.k1)).put 14 (aI L m.k2)).put 15 void) (My (fK.put 0 (Z3 (dJ m.data))) (Int.toNat 1) (Int.toNat 64) m.data))=ko L i m)))))))))))))))))))))):=by
 delta au aA az aw
 have no:∀e,kK L i m=e->e≠0->e=kK L i m/\L=ko L i m:=fun e h he=>⟨h.symm,by unfold ko;rw[h,aq he]⟩
 have hq1:(!decide (0<aJ L))=true->aK L=0:=fun h=>by
  have h1:¬0<aJ L:=by simpa using h
  unfold aJ at h1;omega
 have hq0:(!decide (0<aJ L))=false->aK L≠0:=fun h=>by
  have h1:0<aJ L:=by simpa using h
  unfold aJ at h1;omega
 have hsz:bh IntKind.i64 (dJ m.data):=by unfold aU at hs;simp only[bh,cB,dJ];omega
 have hs8:dJ m.data<=32->bh IntKind.u8 (dJ m.data):=fun h=>by simp only[bh,cB,dJ]at *;omega
 simp only[vq,JV];simp only[re,tf,uP,sr,decide_true,Bool.and_true,Bool.not_true,Bool.or_false,Bool.not_false,Bool.false_eq_true,Bool.true_eq_false,false_implies,implies_true,true_implies,true_and,and_true,and_self];have mk:jL L m=(decide (dJ m.data<=32)&&cS L m.k0&&cS L m.k1&&cS L m.k2):=rfl
 have bad:aK L≠0->jL L m=false->2=kK L i m/\L=ko L i m:=fun h hm=>no _ (by unfold kK;rw[aq h,ar hm]) (by omega)
 refine⟨fun h=>no _ (by unfold kK;rw[ar (hq1 h)]) (by omega),fun h=>⟨hsz,fun g1=>bad (hq0 h) ?_,fun g1=>⟨fun g2=>bad (hq0 h) ?_,fun g2=>⟨fun g3=>bad (hq0 h) ?_,fun g3=>⟨fun g4=>bad (hq0 h) ?_,fun g4=>⟨fun g5=>no _ ?_ (by omega),fun g5=>?_⟩⟩⟩⟩⟩⟩
 ·rw[mk,show decide (dJ m.data<=32)=false by simpa using g1];rfl
 ·rw[mk,show cS L m.k0=false by simpa using g2];simp
 ·rw[mk,show cS L m.k1=false by simpa using g3];simp
 ·rw[mk,show cS L m.k2=false by simpa using g4];simp
 all_goals
  have hm:jL L m=true:=by
   rw[mk,show decide (dJ m.data<=32)=true by simpa using g1,show cS L m.k0=true by simpa using g2,show cS L m.k1=true by simpa using g3,show cS L m.k2=true by simpa using g4];rfl
 ·unfold kK;rw[aq (hq0 h),aq (by simp[hm]),ar (by simpa using g5)]
 have g5':c9 L i=1:=by simpa using g5
 have hE:kK L i m=0:=by unfold kK;rw[aq (hq0 h),aq (by simp[hm]),aq (by omega)]
 obtain⟨a,b,c,d⟩:=uf (uQ.1.1 (by omega:0<=c9 L i))
 refine⟨hsz,hs8 (HP hm),⟨by omega,by omega,by omega⟩,hE.symm,?_⟩
 obtain⟨f0,f1,f2⟩:=DO (by have:=fJ hL;omega:0<L.length) m
 have ho:=HE (m:=jS L m) (a:=void) (dA hL i.toNat (by omega)) d f0 f1 f2 (zk (by omega))
 have e:Obj.mk (aQ L i).kind (aQ L i).count (aQ L i).calls (((((((aQ L i).slots.put 2 (Key.mk 1 void.oid void.count void.call void.rights 1)).put 3 (Key.mk 1 void.oid void.count void.call void.rights m.code)).put 12 (aI L m.k0)).put 13 (aI L m.k1)).put 14 (aI L m.k2)).put 15 void) (My (fK.put 0 (Z3 (dJ m.data))) (Int.toNat 1) (Int.toNat 64) m.data)=lT (aQ L i) (jS L m) void:=by
  rw[Pe (HP hm)];rfl
 rw[e,c,(mn a b ho).1];unfold ko zr;rw[ar hE]
theorem YL[Fen](L:List Sx.Obj)(i:Int)(m:bK)(hL:aO L)(hs:aU m.data):aM Tryz.prog 66 [.lp 0 0,.it .i64 i,tU m] [.store tS eS L] (Bb (.it .i64 (kK L i m)) (ko L i m)) (fun _ _=>False):=
 bm (inl:=(aeq [83,86,85,92,109,88,108,90])) (ann:=(lf [(86,2,lpU 4)])) (aH bF (aH fi (aH gI (aH gK (aH dC (aH rH aP)))))) (aW dI aT) (ek lB) (aaq L i m hL hs) (by kernel_rfl)
theorem YY[Fen]:l5 Tryz.prog 66 abh:=
 D7 (m:=fun x=>anB.cn x 0) (pc Zb (fun _=>rfl)) (fun _=>rfl) (fun _ _=>rfl) (fun x hs=>bm (inl:=(aeq [83,86,85,92,109,88,108,90])) (ann:=bn) (aH sO (aH fi (aH gI (aH gK (aH dC (aH rH aP)))))) (aW dI aT) (ek lB) (Vo x.1 x.2.1 hs) (by kernel_rfl)) (fun x hs=>bm (inl:=(aeq [83,86,85,92,109,88,108,90])) (ann:=bn) (aH sO (aH fi (aH gI (aH gK (aH dC (aH rH aP)))))) (aW dI aT) (ek lB) (WQ x.1 x.2.1 hs) (by kernel_rfl)) fun L x hq=>YL L x.1 x.2.1 hq.1 hq.2
theorem Vn(i:Int)(k:Key)(md:Int)(m:bK)(hs:aU m.data):
 true=true/\1=dw [] i k md m:=by
 exact⟨rfl,rfl⟩
theorem We(i:Int)(k:Key)(md:Int)(m:bK)(hs:aU m.data):
 true=true/\1=dw [] i k md m:=by
 exact⟨rfl,rfl⟩
theorem XL(L:List Sx.Obj)(i:Int)(k:Key)(md:Int)(m:bK)(hL:aO L)(hs:aU m.data):
 aw (au (!decide (0<aJ L)) (1=dw L i k md m/\L=fV L i k md m) (aw (aw (au (!(decide (md=1)||(decide (md=2)||decide (md=3)))) (2=dw L i k md m/\L=fV L i k md m) (aw (aw (au (!(decide (bO k=0)&&(!bc k||decide (cz k<aJ L)))) (2=dw L i k md m/\L=fV L i k md m) (aw (az (dJ m.data)/\aw (au (!decide (dJ m.data<=32)) (2=dw L i k md m/\L=fV L i k md m) (aw (aw (au (!(decide (bO m.k0=0)&&(!bc m.k0||decide (cz m.k0<aJ L)))) (2=dw L i k md m/\L=fV L i k md m) (aw (aw (au (!(decide (bO m.k1=0)&&(!bc m.k1||decide (cz m.k1<aJ L)))) (2=dw L i k md m/\L=fV L i k md m) (aw (aw (au (!(decide (bO m.k2=0)&&(!bc m.k2||decide (cz m.k2<aJ L)))) (2=dw L i k md m/\L=fV L i k md m) (aw (au (!(eu L i&&decide (jb L i=1))) (230=dw L i k md m/\L=fV L i k md m) (aw (au (!((decide (k.kind=6)||decide (k.kind=7))&&bk L k)) (231=dw L i k md m/\L=fV L i k md m) ((au (decide (k.kind=6)) (aw (aw (au (!eu L k.oid) (231=dw L i k md m/\L=fV L i k md m) (aw (au (!(decide (jb L k.oid=0)||decide (md=3)&&decide (k.oid=i))) (232=dw L i k md m/\L=fV L i k md m) (∃g:Unit,Jt L i k md m/\i=i/\md=md/\L=L/\k=k/\m.code=m.code/\m.data=m.data/\aI L m.k0=aI L m.k0/\aI L m.k1=aI L m.k1/\aI L m.k2=aI L m.k2/\i=i/\k=k/\md=md/\Af (decide (md=1)) 2 (Af (decide (md=2)) 1 (Af (decide (md=3)) 0 0))=jW md/\aQ L i=aQ L i)))))) (au (decide (k.kind=7)) (aw (aw (au (!eu L k.oid) (231=dw L i k md m/\L=fV L i k md m) (aw (au (!decide (jb L k.oid=2)) (232=dw L i k md m/\L=fV L i k md m) (aw (au (!decide ((aQ L k.oid).calls<4294967295)) (233=dw L i k md m/\L=fV L i k md m) (∃g:Unit,Jt L i k md m/\i=i/\md=md/\L=L/\k=k/\m.code=m.code/\m.data=m.data/\aI L m.k0=aI L m.k0/\aI L m.k1=aI L m.k1/\aI L m.k2=aI L m.k2/\i=i/\k=k/\md=md/\Af (decide (md=1)) 2 (Af (decide (md=2)) 1 (Af (decide (md=3)) 0 0))=jW md/\aQ L i=aQ L i)))))))) False))/\∀(g:Unit),Jt L i k md m->aw (au (!(!decide (md=1)||decide ((aQ L i).calls<4294967295))) (233=dw L i k md m/\L=fV L i k md m) ((au (decide (md=1)) (∃g:Unit,sm L i k md m/\i=i/\md=md/\L=L/\k=k/\m.code=m.code/\m.data=m.data/\aI L m.k0=aI L m.k0/\aI L m.k1=aI L m.k1/\aI L m.k2=aI L m.k2/\i=i/\k=k/\md=md/\jW md=jW md/\aQ L i=aQ L i/\Key.mk 7 i (aQ L i).count (aQ L i).calls void.rights void.value=jG L i md) (∃g:Unit,sm L i k md m/\i=i/\md=md/\L=L/\k=k/\m.code=m.code/\m.data=m.data/\aI L m.k0=aI L m.k0/\aI L m.k1=aI L m.k1/\aI L m.k2=aI L m.k2/\i=i/\k=k/\md=md/\jW md=jW md/\aQ L i=aQ L i/\void=jG L i md))/\∀(g:Unit),sm L i k md m->(aw (aw (aw (aw (∃g:Unit,sm L i k md m/\i=i/\md=md/\cV L i (Obj.mk (aQ L i).kind (aQ L i).count (aQ L i).calls ((aQ L i).slots.put 2 (aA (jW md))) (aQ L i).bytes)=iB L i md/\k=k/\m.code=m.code/\m.data=m.data/\aI L m.k0=aI L m.k0/\aI L m.k1=aI L m.k1/\aI L m.k2=aI L m.k2/\i=i/\k=k/\md=md/\jW md=jW md/\aQ L i=aQ L i/\jG L i md=jG L i md)))))/\∀(g:Unit),sm L i k md m->(au (decide (k.kind=7)) (aw (aw (az ((aQ (iB L i md) k.oid).calls+1)/\aw (∃g:Unit,sm L i k md m/\i=i/\md=md/\cV (iB L i md) k.oid (Obj.mk (aQ (iB L i md) k.oid).kind (aQ (iB L i md) k.oid).count ((aQ (iB L i md) k.oid).calls+1) (aQ (iB L i md) k.oid).slots (aQ (iB L i md) k.oid).bytes)=gC L i k md/\k=k/\m.code=m.code/\m.data=m.data/\aI L m.k0=aI L m.k0/\aI L m.k1=aI L m.k1/\aI L m.k2=aI L m.k2/\i=i/\k=k/\md=md/\jW md=jW md/\aQ L i=aQ L i/\jG L i md=jG L i md)))) (∃g:Unit,sm L i k md m/\i=i/\md=md/\iB L i md=gC L i k md/\k=k/\m.code=m.code/\m.data=m.data/\aI L m.k0=aI L m.k0/\aI L m.k1=aI L m.k1/\aI L m.k2=aI L m.k2/\i=i/\k=k/\md=md/\jW md=jW md/\aQ L i=aQ L i/\jG L i md=jG L i md))/\∀(g:Unit),sm L i k md m->aw (aw (aw (aw (aw (az (dJ m.data)/\bh IntKind.u8 (dJ m.data)/\Bk 1 64 64/\aw (0=dw L i k md m/\cV (gC L i k md) k.oid (Obj.mk (aQ (gC L i k md) k.oid).kind (aQ (gC L i k md) k.oid).count (aQ (gC L i k md) k.oid).calls (((((((aQ (gC L i k md) k.oid).slots.put 2 (aA 1)).put 3 (aA m.code)).put 12 (aI L m.k0)).put 13 (aI L m.k1)).put 14 (aI L m.k2)).put 15 (jG L i md)) (My (fK.put 0 (Z3 (dJ m.data))) (Int.toNat 1) (Int.toNat 64) m.data))=fV L i k md m)))))))))))))))))))))))))))))))):=by
 delta au aA az aw
 have hq1:(!decide (0<aJ L))=true->aK L=0:=fun h=>by
  have h1:¬0<aJ L:=by simpa using h
  unfold aJ at h1;omega
 have hq0:(!decide (0<aJ L))=false->aK L≠0:=fun h=>by
  have h1:0<aJ L:=by simpa using h
  unfold aJ at h1;omega
 have hsz:bh IntKind.i64 (dJ m.data):=by unfold aU at hs;simp only[bh,cB,dJ];omega
 have hs8:dJ m.data<=32->bh IntKind.u8 (dJ m.data):=fun h=>by simp only[bh,cB,dJ]at *;omega
 simp only[vq,JV];simp only[re,tf,uP,sr,decide_true,Bool.and_true,Bool.not_true,Bool.or_false,Bool.not_false,Bool.false_eq_true,Bool.true_eq_false,false_implies,implies_true,true_implies,true_and,and_true,and_self];have mk:jL L m=(decide (dJ m.data<=32)&&cS L m.k0&&cS L m.k1&&cS L m.k2):=rfl
 refine⟨fun h=>nb (abD (hq1 h)) (by omega),fun h=>⟨fun c1=>nb (Hm (hq0 h) (.inl ?_)) (by omega),fun c1=>⟨fun c2=>nb (Hm (hq0 h) (.inr (.inl ?_))) (by omega),fun c2=>⟨hsz,fun g1=>nb (Hm (hq0 h) (.inr (.inr ?_))) (by omega),fun g1=>⟨fun g2=>nb (Hm (hq0 h) (.inr (.inr ?_))) (by omega),fun g2=>⟨fun g3=>nb (Hm (hq0 h) (.inr (.inr ?_))) (by omega),fun g3=>⟨fun g4=>nb (Hm (hq0 h) (.inr (.inr ?_))) (by omega),fun g4=>?_⟩⟩⟩⟩⟩⟩⟩
 ·simp at c1;omega
 ·simpa using c2
 ·rw[mk,show decide (dJ m.data<=32)=false by simpa using g1];rfl
 ·rw[mk,show cS L m.k0=false by simpa using g2];simp
 ·rw[mk,show cS L m.k1=false by simpa using g3];simp
 ·rw[mk,show cS L m.k2=false by simpa using g4];simp
 have hl:=hq0 h;have b1:1<=md/\md<=3:=by simp at c1;omega
 have b2:cS L k=true:=by simpa using c2
 have b3:jL L m=true:=by
  rw[mk,show decide (dJ m.data<=32)=true by simpa using g1,show cS L m.k0=true by simpa using g2,show cS L m.k1=true by simpa using g3,show cS L m.k2=true by simpa using g4];rfl
 have b:¬(¬(1<=md/\md<=3)\/cS L k=false\/jL L m=false):=by
  rw[b2,b3];rintro(x|x|x)
  ·exact x b1
  ·exact Bool.noConfusion x
  ·exact Bool.noConfusion x
 refine⟨fun g5=>nb (OY hl b (by simpa using g5)) (by omega),fun g5=>?_⟩
 have c:c9 L i=1:=by simpa using g5
 refine⟨fun g6=>nb (HA hl b c ?_) (by omega),fun g6=>?_⟩
 ·simp only[Bool.not_eq_true',Bool.and_eq_false_iff,Bool.or_eq_false_iff,decide_eq_false_iff_not]at g6;rcases g6 with⟨x,y⟩|x
  ·exact .inr (.inl (by omega))
  ·exact .inl x
 have d1:(k.kind=6\/k.kind=7)/\bk L k=true:=by simp at g6;exact⟨by omega,g6.2⟩
 have hd:(!eu L k.oid)=true->231=dw L i k md m/\L=fV L i k md m:=fun x=>nb (HA hl b c (.inr (.inr (uQ.2.2 (by simpa using x))))) (by omega)
 have dd:0<=c9 L k.oid->¬(bk L k=false\/¬(k.kind=6\/k.kind=7)\/c9 L k.oid<0):=fun h0=>by
  rw[d1.2];rintro(x|x|x)
  ·exact Bool.noConfusion x
  ·exact x d1.1
  ·omega
 have hd':(!eu L k.oid)=false->0<=c9 L k.oid/\jb L k.oid=c9 L k.oid:=fun x=>by
  have hb:eu L k.oid=true:=by simpa using x
  exact⟨uQ.1.2 hb,aa9 hb⟩
 obtain⟨n0,n1,_,n3⟩:=PI b1;rw[n3];refine⟨⟨fun h6=>⟨hd,fun x=>⟨fun y=>?_,fun y=>⟨⟨⟩,?_,rfl⟩⟩⟩,fun h6=>⟨fun h7=>⟨hd,fun x=>⟨fun y=>?_,fun y=>⟨fun z=>?_,fun z=>⟨⟨⟩,?_,rfl⟩⟩⟩⟩,fun h7=>?_⟩⟩,fun _ hF=>?_⟩
 ·obtain⟨p0,pv⟩:=hd' x;have h6':=ak h6;rw[pv]at y;refine nb (GP hl b c (dd p0) (.inl ⟨h6',?_⟩)) (by omega)
  simp only[Bool.not_eq_true',Bool.or_eq_false_iff,Bool.and_eq_false_iff,decide_eq_false_iff_not]at y;exact⟨y.1,fun hh=>y.2.elim (fun u=>u hh.1) (fun u=>u hh.2)⟩
 ·obtain⟨p0,pv⟩:=hd' x;have h6':=ak h6;rw[pv]at y;simp only[Bool.not_eq_false',Bool.or_eq_true,af,ah]at y;refine⟨hl,b1,b2,b3,c,d1.2,d1.1,p0,?_,fun hh=>by omega⟩
  rintro(⟨_,u,v⟩|⟨u,_⟩)
  ·exact y.elim u v
  ·omega
 ·obtain⟨p0,pv⟩:=hd' x;have h7':=ak h7;rw[pv]at y;exact nb (GP hl b c (dd p0) (.inr ⟨h7',by simpa using y⟩)) (by omega)
 ·obtain⟨p0,pv⟩:=hd' x;have h7':=ak h7;rw[pv]at y;have y':c9 L k.oid=2:=by simpa using y
  obtain⟨_,_,k2,_⟩:=uf (uQ.1.1 p0);rw[k2]at z;refine nb (G2 hl b c (dd p0) ?_ (.inl ⟨h7',by simpa using z⟩)) (by omega)
  rintro(⟨u,_⟩|⟨_,u⟩)<;>omega
 ·obtain⟨p0,pv⟩:=hd' x;have h7':=ak h7;rw[pv]at y;have y':c9 L k.oid=2:=by simpa using y
  obtain⟨_,_,k2,_⟩:=uf (uQ.1.1 p0);rw[k2]at z;have z':(aL L k.oid.toNat free).calls<4294967295:=by simpa using z
  refine⟨hl,b1,b2,b3,c,d1.2,d1.1,p0,?_,fun hh=>by omega⟩
  rintro(⟨u,_⟩|⟨_,u⟩)<;>omega
 ·have h6':=aj h6;have h7':=aj h7;omega
 obtain⟨_,_,_,_,_,_,_,p0,f9,f10⟩:=hF;obtain⟨i0,i1,i2,i3⟩:=uf (uQ.1.1 (by omega:0<=c9 L i))
 rw[i2];refine⟨fun g7=>nb (G2 hl b c (dd p0) f9 (.inr ?_)) (by omega),fun g7=>?_⟩
 ·simp only[Bool.not_eq_true',Bool.or_eq_false_iff,Bool.not_eq_false',ah,decide_eq_false_iff_not]at g7;omega
 have hE:dw L i k md m=0:=by
  refine ac5 hl b c (dd p0) f9 ?_;simp only[Bool.not_eq_false',Bool.or_eq_true,Bool.not_eq_true',ah,decide_eq_false_iff_not]at g7;rintro(u|u)
  ·exact f10 u
  ·omega
 obtain⟨_,⟨⟨k0,k1⟩,_,_⟩,⟨hb,hb1⟩,⟨o1,l1⟩,⟨o2,l2⟩,⟨q1,q1c⟩,q2,hs32,hA⟩:=u7 hL hE;obtain⟨_,_,hend⟩:=RJ hL hE;refine⟨⟨fun h1=>⟨⟨⟩,hE,?_⟩,fun h1=>⟨⟨⟩,hE,?_⟩⟩,fun _ _=>⟨⟨⟨⟩,hE,?_⟩,fun _ _=>⟨⟨fun h7=>⟨?_,⟨⟩,hE,?_⟩,fun h7=>⟨⟨⟩,hE,?_⟩⟩,fun _ _=>⟨hsz,hs8 hs32,⟨by omega,by omega,by omega⟩,hE.symm,?_⟩⟩⟩⟩
 ·unfold jG;rw[ar (ak h1)];rfl
 ·unfold jG;rw[aq (aj h1)]
 ·have e:=(Rf hL hb).2;rw[hb1,i2]at e;exact e
 ·have ho:=dK.1 (dA o1 k.oid.toNat (by omega))
  rw[ij k0 (by omega)]
  have:=ho.2.2.2.2.2.2.1;have:=ho.2.2.2.2.2.2.2.1;simp only[bh,cB];omega
 ·have h7':=ak h7;have hc:¬4294967295<=(aL L k.oid.toNat free).calls:=fun h=>f10 ⟨h7',h⟩
  have e:=(mn k0 (by omega) (Po (dA o1 k.oid.toNat (by omega)) q1 (by rw[q1c];omega))).1
  rw[ij k0 (by omega)]
  unfold gC;rw[ar h7'];exact e
 ·unfold gC;rw[aq (aj h7)]
 ·rw[Pe hs32,hE]at *;exact hend
theorem YI[Fen](L:List Sx.Obj)(i:Int)(k:Key)(md:Int)(m:bK)(hL:aO L)(hs:aU m.data):aM Tryz.prog 63 [.lp 0 0,.it .i64 i,.key k,.it .i64 md,tU m] [.store tS eS L] (Bb (.it .i64 (dw L i k md m)) (fV L i k md m)) (fun _ _=>False):=
 bm (inl:=(aeq [83,84,89,91,106,107,86,85,92,109,88,108,90])) (ann:=(lf [(86,2,lpU 4),(63,2000015,lpC [0,1,3,7,10,11,12,15,20] (fun(_:Unit)=> []) (fun _=> [(12,.blk 136 (.it .i64 (jW md)))]) (fun _=> []) (fun _=>Jt L i k md m)),(63,2000019,lpC [0,1,3,7,10,11,12,15,20] (fun(_:Unit)=> []) (fun _=> [(20,.blk tK (.key (jG L i md)))]) (fun _=> []) (fun _=>sm L i k md m)),(63,2000020,lpC [0,1,3,7,10,11,12,15,20] (fun(_:Unit)=> []) (fun _=> []) (fun _=> [(0,.store tS eS (iB L i md))]) (fun _=>sm L i k md m)),(63,2000022,lpC [0,1,3,7,10,11,12,15,20] (fun(_:Unit)=> []) (fun _=> []) (fun _=> [(0,.store tS eS (gC L i k md))]) (fun _=>sm L i k md m))])) (aH bF (aH fi (aH gI (aH gK (aH dC (aH rH (aH bT (aH wX aP)))))))) (aW dI aT) (ek lB) (XL L i k md m hL hs) (by kernel_rfl)
theorem aau[Fen]:l5 Tryz.prog 63 abW:=
 D7 (m:=fun x=>ivB.cn x 0) (pc YR (fun _=>rfl)) (fun _=>rfl) (fun _ _=>rfl) (fun x hs=>bm (inl:=(aeq [83,84,89,91,106,107,86,85,92,109,88,108,90])) (ann:=bn) (aH sO (aH fi (aH gI (aH gK (aH dC (aH rH (aH bT (aH wX aP)))))))) (aW dI aT) (ek lB) (Vn x.1 x.2.1 x.2.2.1 x.2.2.2.1 hs) (by kernel_rfl)) (fun x hs=>bm (inl:=(aeq [83,84,89,91,106,107,86,85,92,109,88,108,90])) (ann:=bn) (aH sO (aH fi (aH gI (aH gK (aH dC (aH rH (aH bT (aH wX aP)))))))) (aW dI aT) (ek lB) (We x.1 x.2.1 x.2.2.1 x.2.2.2.1 hs) (by kernel_rfl)) fun L x hq=>YI L x.1 x.2.1 x.2.2.1 x.2.2.2.1 hq.1 hq.2
theorem TC:
 aw (aw (∀(r0:Loop),(∃g,kP [] g/\aJ []=aJ []/\0=g/\Value.pointer none=Value.pointer none/\r0=r0/\[]=fH [] g)/\∀(g:Int),kP [] g->au (decide (g<aJ [])) False (aw (∀(nid:Nat),some (V.sa nid)=some (V.sa nid)/\some [aS.arr (some tI) 1 (TL.it IntKind.i64 (fH [] g))]=some [aS.arr (some tI) 1 (TL.it IntKind.i64 (fH [] (bV (aK ([]:List Sx.Obj)))))])))):=by
 delta au aw
 simp only[re,tf,uP,sr,decide_true,Bool.and_true,Bool.not_true,Bool.or_false,Bool.not_false,Bool.false_eq_true,Bool.true_eq_false,false_implies,implies_true,true_implies,true_and,and_true,and_self];refine fun _=>⟨⟨0,⟨by omega,by unfold aK;simp⟩,rfl,rfl⟩,fun g hg=>⟨fun h=>?_,fun h _=>?_⟩⟩
 ·have h1:g<aJ []:=ak h;have:=hg.1;unfold aJ aK at h1;simp at h1;omega
 ·have:g=bV (aK ([]:List Obj)):=by have:=hg.1;have:=hg.2;unfold bV aK at *;simp at *;omega
  rw[this];rfl
theorem VU[Fen]:aM Tryz.prog 61 [lX] [] (GG true lX (fun n=> .sa n) (.arr (some tI) 1 (.it .i64 (fH [] (bV (aK ([]:List Sx.Obj))))))) (fun _ _=>False):=
 bU (inl:=(aeq [80,27])) (ann:=(lf [(4000+48,1,lpV [0,1,5] (fun g=> [(6,.it .i64 g)]) 0 32 tI 1 (fun g=> .it .i64 (fH [] g)) (kP []) (bV (aK ([]:List Sx.Obj))))])) (aH bF aP) aT (TC) (by kernel_rfl)
theorem aaU(L:List Sx.Obj)(hl:kF L):
 aw (aw (∀(r0:Loop),(∃g,kP L g/\aJ L=aJ L/\0=g/\L=L/\r0=r0/\[]=fH L g)/\∀(g:Int),kP L g->au (decide (g<aJ L)) ((0<=g/\g< ↑(aK L))/\g.toNat<aK L/\g.toNat<aK L/\r0=r0/\r0=r0/\aw (au (!decide ((aL L g.toNat free).kind=1)|| !decide (((aL L g.toNat free).slots.at 2).kind=1)||decide (((aL L g.toNat free).slots.at 2).value<0)||decide (2<((aL L g.toNat free).slots.at 2).value)) (r0=r0/\az (g+1)/\∃g',kP L g'/\(bV (aK L)-g').toNat<(bV (aK L)-g).toNat/\aJ L=aJ L/\g+1=g'/\L=L/\r0=r0/\fH L g=fH L g') (au (decide (((aL L g.toNat free).slots.at 2).value=1)) (lr (aK (fH L g)) 8/\r0=r0/\az (g+1)/\∃g',kP L g'/\(bV (aK L)-g').toNat<(bV (aK L)-g).toNat/\aJ L=aJ L/\g+1=g'/\L=L/\r0=r0/\dn (fH L g) g=fH L g') (r0=r0/\az (g+1)/\∃g',kP L g'/\(bV (aK L)-g').toNat<(bV (aK L)- g).toNat/\aJ L=aJ L/\g+1=g'/\L=L/\r0=r0/\fH L g=fH L g')))) (aw (∀(nid:Nat),some (V.sa nid)=some (V.sa nid)/\some [aS.arr (some tI) 1 (TL.it IntKind.i64 (fH L g))]=some [aS.arr (some tI) 1 (TL.it IntKind.i64 (fH L (bV (aK L))))])))):=by
 delta au az aw
 simp only[CN];simp only[re,tf,uP,sr,decide_true,Bool.and_true,Bool.not_true,Bool.or_false,Bool.not_false,Bool.false_eq_true,Bool.true_eq_false,false_implies,implies_true,true_implies,true_and,and_true,and_self];refine fun _=>⟨⟨0,⟨by omega,by omega⟩,rfl,(Bd L).symm⟩,fun g hg=>⟨fun h=>?_,fun h=>?_⟩⟩
 ·have h1:g<(L.length:Int):=ak h;obtain⟨s1,s2,s3⟩:=Qj hl hg h1;have e:=BF L hg.1;have hlL:aK L=L.length:=rfl;have hg0:=hg.1;have hget:aQ L g=aL L g.toNat free:=ij hg.1 h1;refine⟨⟨by omega,by omega⟩,by omega,by omega,fun h2=>⟨s1,g+1,s2,s3,rfl,?_⟩,fun h2=>⟨fun h3=>⟨SG hl h1,s1,g+1,s2,s3,rfl,?_⟩,fun h3=>⟨s1,g+1,s2,s3,rfl,?_⟩⟩⟩
  ·have hb:eu L g=false:=by unfold eu;rw[hget];simpa using h2
   rw[e,aq (by rw[(zX hb).1];omega)]
  ·have hb:eu L g=true:=by unfold eu;rw[hget];simpa using h2
   rw[e,ar (by rw[(nm hb).1,hget];exact ak h3)]
  ·have hb:eu L g=true:=by unfold eu;rw[hget];simpa using h2
   rw[e,aq (by rw[(nm hb).1,hget];exact aj h3)]
 ·have h1:¬g<(L.length:Int):=aj h;have:g=bV (aK L):=by have:=hg.2;unfold bV aK at *;omega
  rw[this];exact fun _=>rfl
theorem X9[Fen](L:List Sx.Obj)(hl:kF L):aM Tryz.prog 61 [.lp 0 0] [.ro (.store tS eS L)] (GG true lX (fun n=> .sa n) (.arr (some tI) 1 (.it .i64 (fH L (bV (aK L)))))) (fun _ _=>False):=
 bU (inl:=(aeq [80,27])) (ann:=(lf [(4000+48,1,lpV [0,1,5] (fun g=> [(6,.it .i64 g)]) 1 32 tI 1 (fun g=> .it .i64 (fH L g)) (kP L) (bV (aK L)))])) (aH bF aP) aT (aaU L hl) (by kernel_rfl)
theorem Z1[Fen]:l5 Tryz.prog 61 abC:=
 zY (ba tq dq) (fun _=>rfl) (fun _=>by simp) fun a hq hok=>by
  obtain⟨S,_⟩:=a;cases S with
  |none=>exact VU
  |some L=>exact X9 L hq
end Go.Proofs.YtmfbohanboiklaaGreat
namespace Go.Sx
def o6:Nat:=174
def mP(k:Key)(r:Int):Key:=if k.kind=2 then cU k (bM k.rights r)else if k.kind=3 then cU k (bM k.rights (r.tmod 2))else k
def ye(k:Key)(r:Int):Prop:=aR k=true/\0<=r/\r<=7
def ZX:Ct:=FN (bJ kA (bJ iA jP)) (fun x=>some (ye x.1 x.2.1)) fun x=> .tp [.key (mP x.1 x.2.1),.ci .i64 0]
def je(a b:Key):Bool:=aR a&&aR b&&(decide (a.kind=0)||A4 a b||(decide (a.kind=2)||decide (a.kind=3))&&decide (a.kind=b.kind)&&decide (a.oid=b.oid)&&decide (a.count=b.count)&&decide (bM a.rights b.rights=a.rights))
def Ya:Ct:=Xm rK rK fun a b=> .bo (je a b)
theorem wi{a:Int}(h:0<=a/\a<=7):∃x:Fin 8,a=(x.val:Int):=⟨⟨a.toNat,by omega⟩,by simp;omega⟩
theorem Ow{a r:Int}(h:0<=a/\a<=7)(h':0<=r/\r<=7):bu .or .i64 a (bu .and .i64 r 7)=bM a r:=by
 have key:∀x y:Fin 8,bu .or .i64 (x.val:Int) (bu .and .i64 (y.val:Int) 7)=bM (x.val:Int) (y.val:Int):=by decide+kernel
 obtain⟨x,rfl⟩:=wi h;obtain⟨y,rfl⟩:=wi h';exact key x y
theorem Rx{a r:Int}(h:0<=a/\a<=1)(h':0<=r/\r<=7):bu .or .i64 a (bu .and .i64 r 1)=bM a (r.tmod 2):=by
 have key:∀x y:Fin 8,x.val<=1->bu .or .i64 (x.val:Int) (bu .and .i64 (y.val:Int) 1)=bM (x.val:Int) ((y.val:Int).tmod 2):=by decide+kernel
 obtain⟨x,rfl⟩:=wi (a:=a) (by omega)
 obtain⟨y,rfl⟩:=wi h';exact key x y (by omega)
theorem Pz{r:Int}(h':0<=r/\r<=7):bu .or .i64 0 (bu .and .i64 r 0)=0:=by
 have key:∀y:Fin 8,bu .or .i64 0 (bu .and .i64 (y.val:Int) 0)=0:=by decide+kernel
 obtain⟨y,rfl⟩:=wi h';exact key y
theorem Bu{a b:Int}(h:0<=a/\a<=7)(h':0<=b/\b<=7):decide (bu .andNot .i64 b a=0)=decide (bM a b=a):=by
 have key:∀x y:Fin 8,decide (bu .andNot .i64 (y.val:Int) (x.val:Int)=0)=decide (bM (x.val:Int) (y.val:Int)=(x.val:Int)):=by decide+kernel
 obtain⟨x,rfl⟩:=wi h;obtain⟨y,rfl⟩:=wi h';exact key x y
def gz(k:Key):bK:=⟨0,⟨#[]⟩,k,void,void⟩
def gO(n:Int):bK:=⟨0,⟨#[]⟩,void,void,dR n⟩
def jB(s:ByteArray):bK:=⟨0,s,void,void,void⟩
def gJ(e:Int):bK:=⟨e,⟨#[]⟩,void,void,void⟩
def fF(k:Key):Key:=⟨2,k.oid,k.count,0,0,0⟩
def bE(m:bK):Int:=if 0<=m.k2.value/\m.k2.value<=2147483647 then m.k2.value else -1
def gm(b:Bool):Int:=if b then 1 else 0
def xB(n:Int):Int:=imax 0 (tk 32 (64-n))
abbrev Xv:=Int×bK×List Obj
def iC(L:List Obj)(k:Key)(m:bK):Xv:=
 if m.code=1 then(dB L k (bE m),gz (bf L k (bE m)),L)
 else if m.code=2 then(bY L k (bE m) m.k0,gz (fa L k (bE m) m.k0),dL L k (bE m) m.k0)
 else if m.code=3 then(bq L k 2 true,fm,gu L k)
 else if m.code=4 then(dr L k m.k0,fm,fL L k m.k0)
 else if m.code=5 then(if 0<=m.k2.value/\m.k2.value<=7 then 0 else 2,gz (mP k m.k2.value),L)
 else(if k.rights=0 then 0 else 191,gz ⟨5,k.oid,k.count,0,0,0⟩,L)
def ir(L:List Obj)(k:Key)(m:bK):Xv:=
 if m.code=1 then(de L k (bE m) (xB (bE m)),jB (fk L k (bE m) (xB (bE m))),L)
 else if m.code=2 then(eh L k (bE m) m.data,fm,fE L k (bE m) m.data)
 else if m.code=3 then(cc L k true,fm,fZ L k)
 else if m.code=4 then(ei L k m.k0,fm,gw L k m.k0)
 else(if 0<=m.k2.value/\m.k2.value<=7 then 0 else 2,gz (mP k m.k2.value),L)
def iR(L:List Obj)(k:Key)(m:bK):Xv:=
 if m.code=1 then(dZ L k 1,gz (dh L k 1),gh L k 1)
 else if m.code=2 then(dZ L k 2,gz (dh L k 2),gh L k 2)
 else if m.code=3 then(eM L k m.k0,fm,iU L k m.k0)
 else if m.code=4 then(cX L k (bE m),gz (cJ L k (bE m)),bN L k (bE m))
 else if m.code=5 then(bx L k,gO (gm (nM L k m.k0)),L)
 else(bx L k,gO (j7 L k),jF L k)
def gk(L:List Obj)(k:Key):Key:=bf L (fF k) 0
def gQ(L:List Obj)(k:Key)(m:bK):Xv:=
 if m.code=1 then(if bE m<0\/11<bE m then 4 else dB L (fF k) (bE m+4),gz (bf L (fF k) (bE m+4)),L)
 else if m.code=2 then(if bE m<0\/11<bE m then 4 else bY L (fF k) (bE m+4) m.k0,gz (fa L (fF k) (bE m+4) m.k0),if bE m<0\/11<bE m then L else dL L (fF k) (bE m+4) m.k0)
 else if m.code=3 then(0,gz ⟨6,k.oid,k.count,0,0,m.k2.value⟩,L)
 else if m.code=4 then(0,gO (c9 L k.oid),L)
 else if m.code=5 then(fB L k.oid (bE m),fm,iz L k.oid (bE m))
 else if m.code=6 then(if dH L (gk L k) m.k2.value 32=0 then(if dD L (gk L k) m.k2.value 32 false=0 then 0 else 1000+dD L (gk L k) m.k2.value 32 false)else dH L (gk L k) m.k2.value 32,jB (oD L (gk L k) m.k2.value 32),L)
 else(if dH L (gk L k) m.k2.value (dJ m.data)=0 then(if dD L (gk L k) m.k2.value (dJ m.data) true=0 then 0 else 1000+dD L (gk L k) m.k2.value (dJ m.data) true)else dH L (gk L k) m.k2.value (dJ m.data),fm,mD L (gk L k) m.k2.value m.data)
def dX(kind:Int):Int:=if kind=1 then 1 else if kind=2 then 6 else if kind=3 then 5 else if kind=4 then 6 else if kind=5 then 7 else if kind=8 then 3 else if kind=9\/kind=10 then 1 else 0
def eI(kind c:Int):Bool:=
 if kind=2\/kind=3 then decide (c=1)||decide (c=2)||decide (c=5)else if kind=4 then decide (c=4)
 else if kind=5 then decide (1<=c/\c<=3)||decide (5<=c/\c<=7)else false
def ew(L:List Obj)(now:Int)(k:Key)(m:bK):Xv:=
 if k.kind=1 then(0,gO k.value,L)
 else if k.kind=2 then iC L k m
 else if k.kind=3 then ir L k m
 else if k.kind=4 then iR L k m
 else if k.kind=5 then gQ L k m
 else if k.kind=8 then(0,if m.code=1 then gO m.k0.kind else if m.code=2 then gO (gm (je m.k0 m.k1))else gO m.k0.rights,L)
 else if k.kind=9 then(0,gO now,L)
 else(0,fm,L)
def dQ(L:List Obj)(now:Int)(k:Key)(m:bK):Xv:=
 if k.kind=0 then(190,fm,L)
 else if m.code=0 then(0,gO k.kind,L)
 else if m.code<1\/dX k.kind<m.code\/(eI k.kind m.code=true/\m.k2.kind≠1)then(240,fm,L)
 else ew L now k m
def eg(L:List Obj)(now:Int)(k:Key)(m:bK):bK:=if(dQ L now k m).1=0 then(dQ L now k m).2.1 else gJ (dQ L now k m).1
def eV(L:List Obj)(now:Int)(k:Key)(m:bK):List Obj:=(dQ L now k m).2.2
def bd(L:List Obj)(now:Int)(k:Key)(m:bK):bK×List Obj:=(eg L now k m,eV L now k m)
def kk(c:Int)(k:Key):Key:=⟨c,k.oid,k.count,k.call,k.rights,k.value⟩
def mm(c:Int)(m:bK):bK:=⟨c,m.data,m.k0,m.k1,m.k2⟩
def eB:ByteArray:=⟨#[]⟩
def iP(c:V)(m:bK)(n:Int)(kd:V)(k:Key):V:= .ag [.ag [c,.st m.data,.ag [.key m.k0,.key m.k1,.key m.k2]],.lp 1 0,.it .i64 n,.ag [kd,.it .i64 k.oid,.it .i64 k.count,.it .i64 k.call,.it .i64 k.rights,.it .i64 k.value]]
def kO(A:bK×List Obj)(v:V)(r:List aS):Prop:=
 match A7 v with
 |some x=>match aN r 1 with
  | .store t e M=>if t==tS&&e==eS then(x,M)=A else False
  |_=>False
 |none=>False
theorem Yr{A:bK×List Obj}{v:V}{r:List aS}(h:kO A v r):vZ (tU A.1) v r/\aN r 1= .store tS eS A.2:=by
 unfold kO at h;split at h
 case h_2=>exact h.elim
 rename_i x hx;split at h
 case h_2=>exact h.elim
 rename_i hr;split at h
 case isFalse=>exact h.elim
 rename_i hc;simp only[af,ai]at hc;obtain⟨rfl,rfl⟩:=hc;subst h;obtain⟨a,b⟩:=CT v x hx;have ht:cE v=false:=by cases v<;>first|rfl|simp[A7]at hx
 exact⟨fun J K=>⟨a J,fun h=>gi (b K h),ht⟩,hr⟩
def uv(r:Xv):bK×List Obj:=(if r.1=0 then r.2.1 else gJ r.1,r.2.2)
theorem I8{L:List Obj}{n:Int}{k:Key}{m:bK}{c:Int}(hc:1<=c/\c<=7):bd L n (kk 5 k) (mm c m)=if eI 5 c=true/\m.k2.kind≠1 then(gJ 240,L)else uv (gQ L (kk 5 k) (mm c m)):=by
 have h0:¬c=0:=by omega
 have h1:¬(c<1\/dX 5<c):=by have:dX 5=7:=by decide
                            omega
 have e1:(kk 5 k).kind=5:=rfl;have e2:(mm c m).code=c:=rfl;have e3:(mm c m).k2=m.k2:=rfl;have hb:ew L n (kk 5 k) (mm c m)=gQ L (kk 5 k) (mm c m):=by unfold ew;rw[e1];rfl
 have hr:dQ L n (kk 5 k) (mm c m)=if eI 5 c=true/\m.k2.kind≠1 then(240,fm,L)else gQ L (kk 5 k) (mm c m):=by
  unfold dQ;rw[e1,e2,e3,aq (by omega),aq h0,hb]
  by_cases h:eI 5 c=true/\m.k2.kind≠1
  ·rw[ar (.inr (.inr h)),ar h]
  ·rw[aq (fun hh=>by rcases hh with hh|hh|hh;exact h1 (.inl hh);exact h1 (.inr hh);exact h hh),aq h]
 unfold bd eg eV;rw[hr];by_cases h:eI 5 c=true/\m.k2.kind≠1
 ·simp only[ar h];rfl
 ·simp only[aq h];rfl
theorem Q5{L:List Obj}:∀(n:Nat) (w:Wk),0<=(SQ L n w).kd/\(SQ L n w).kd<=4
 |0,w=>by simp[SQ]
 |n+1,w=>by
  unfold SQ;split
  ·split<;>simp
  ·split
   ·split
    ·rename_i r heq;unfold mw at heq;split at heq
     ·simp at heq;rw[<-heq];simp
     ·split at heq
      ·split at heq
       ·simp at heq
       ·simp at heq;rw[<-heq];simp
      ·simp at heq;rw[<-heq];simp
    ·exact Q5 n _
   ·simp
theorem W6{L:List Obj}{k:Key}{a n:Int}{w:Bool}:0<=dD L k a n w/\dD L k a n w<=6:=by
 have h:0<=(aV L k a).kd/\(aV L k a).kd<=4:=by
  unfold aV;split
  ·exact Q5 _ _
  ·simp[wr0]
 unfold dD;grind
def Cw(L:List Obj)(n:Int)(k:Key)(m:bK):Bool:=decide (0<=n)&&jL L m&&cS L k
def km(L:List Obj)(n:Int)(k:Key)(m:bK):Int:=
 if aK L=0 then 1 else if Cw L n k m=false then 2 else if(aI L k).kind=6\/(aI L k).kind=7 then 241 else 0
def b9(L:List Obj)(n:Int)(k:Key)(m:bK):bK:=if km L n k m=0 then eg L n (aI L k) (jS L m)else fm
def jX(L:List Obj)(n:Int)(k:Key)(m:bK):Bool:=decide (km L n k m=0)&&decide ((aI L k).kind=10)&&decide (m.code=1)
def mI(L:List Obj)(n:Int)(k:Key)(m:bK):List Obj:=if km L n k m=0 then eV L n (aI L k) (jS L m)else L
def RO:Ct:=FN (bJ sA (bJ kA jP)) (fun _=>none) fun x=> .bo (cS (vP x.1) x.2.1)
def aaR:lb (Int×Key×bK×Unit):=bJ iA (bJ kA (bJ mA jP))
theorem VJ:ji aaR:=ba fx (ba nX (ba QA dq))
def ac1:lg:=hSr (Mw aaR) (fun x=>aU x.2.2.1.data) (fun L x=>aO L/\aU x.2.2.1.data) (fun L x=> .tp [tU (b9 L x.1 x.2.1 x.2.2.1),.bo (jX L x.1 x.2.1 x.2.2.1),.it .i64 (km L x.1 x.2.1 x.2.2.1)]) fun L x=>mI L x.1 x.2.1 x.2.2.1
def W0(L:List Obj)(k:Key)(m:bK):Prop:=aO L/\aU m.data/\aR k=true
def XB:lg:=fun args res K=>
 match args with
 | [a]=>match a with
   | .lp j off=>if off==0 then match aN res j with
     | .blk t c=>if t==o6 then match c with
       | .ag cl=>match cl with
         | [mv,sv,nv,kv]=>match A7 mv with
           |some m=>match sv with
            | .lp i o2=>if o2==0&& !(i==j)then match rI .i64 nv with
              |some n=>match rK kv with
               |some k=>match aN res i with
                | .store t2 e L=>if t2==tS&&e==eS then W0 L k m/\K (tU (eg L n k m)) (bR res i (.store tS eS (eV L n k m)))else False
                |_=>False
               |none=>False
              |none=>False
              else False
            |_=>False
           |none=>False
         |_=>False
       |_=>False
       else False
     |_=>False
     else False
   |_=>False
 |_=>False
theorem Hq{L:List Obj}{k:Key}:aR (aI L k)=true:=by
 unfold aI;split
 ·rfl
 ·rename_i h;simp only[Bool.or_eq_true,not_or,Bool.not_eq_true',Bool.not_eq_false]at h;exact h.1.2
theorem rJ{k:IntKind}{v:V}{n:Int}(h:rI k v=some n):kR v=true:=by
 cases v<;>first|rfl|simp[rI,toInt]at h
theorem N5{v:V}{s:ByteArray}(h:Ga v=some s):kR v=true:=by
 cases v<;>first|rfl|simp[Ga]at h
theorem DI{v:V}{k:Key}(h:rK v=some k):kR v=true:=by
 unfold rK at h;split at h
 ·rfl
 ·split at h
  case h_2=>simp at h
  repeat' (split at h<;>try(simp at h;done))
  rename_i h1 _ _ h2 _ _ h3 _ _ h4 _ _ h5 _ _ h6;simp[kR,mc,rJ h1,rJ h2,rJ h3,rJ h4,rJ h5,rJ h6]
 ·simp at h
theorem Sa{v:V}{m:bK}(h:A7 v=some m):kR v=true:=by
 unfold A7 at h;split at h
 case h_2=>simp at h
 split at h
 case h_2=>simp at h
 split at h
 case h_2=>simp at h
 rename_i hn;split at h
 case h_2=>simp at h
 rename_i hs;split at h
 case h_2=>simp at h
 split at h
 case h_2=>simp at h
 split at h
 case h_2=>simp at h
 rename_i hk;split at h
 case h_2=>simp at h
 rename_i hk';split at h<;>simp only[aa,reduceCtorEq]at h
 rename_i hk'';simp[kR,mc,rJ hn,N5 hs,DI hk,DI hk',DI hk'']
theorem GA[Fen]{P:Program}{f:Nat}{K KP:V->List aS->Prop}{t:Nat}{c c':V}{r:aS}(hr:r≠ .yet)(hc:∀J,cells J c=cells J c')(hc':∀K,ok K c->ok K c')(hct:cE c'=false)
  (h:aM P f [.lp 0 0] [.ro (.blk t c'),r] K KP):aM P f [.lp 0 0] [.ro (.blk t c),r] K KP:=by
 have hk:∀i (x:V),known [.ro (.blk t x),r] i↔i=0\/i=1:=fun i x=>by
  unfold known;rcases i with _|_|i<;>simp[aN,hr]
 have hkk:∀i (x y:V),known [.ro (.blk t x),r] i->known [.ro (.blk t y),r] i:=fun i x y h=>(hk i y).2 ((hk i x).1 h)
 refine h.vQ fun J fps w0 F0 w hH=>⟨J,fps,hH.weaken fun i hi=>⟨hkk i _ _ hi,fun fp hh=>?_⟩,Env.agree.refl _ _,fun i hi=>hkk i _ _ hi⟩
 rcases(hk i _).1 hi with rfl|rfl
 ·obtain⟨fp',⟨h1,h2,h3,h4⟩,h5⟩:=hh;exact⟨fp',⟨hc' _ (dt (fun i hi=>hkk i _ _ hi) _ h1),hct,h3,by rw[<-hc];exact h4⟩,h5⟩
 ·exact aS.oP _ hh fun i hi=>hkk i _ _ hi
theorem AR[Fen]{P:Program}{f:Nat}{K KP:V->List aS->Prop}{c c' d d':V}{m:bK}{n:Int}{k:Key}{r:aS}(hr:r≠ .yet)(hc:∀J,den J c=den J c')(hc':∀K,ok K c->ok K c')(hct:cE c'=false)(hd:∀J,den J d=den J d')(hd':∀K,ok K d->ok K d')(hdt:cE d'=false)
  (h:aM P f [.lp 0 0] [.ro (.blk o6 (iP c' m n d' k)),r] K KP):aM P f [.lp 0 0] [.ro (.blk o6 (iP c m n d k)),r] K KP:=by
 refine GA hr (fun J=>by simp only[cells,iP,den,br,hc,hd]) (fun K h1=>?_) rfl h
 obtain⟨⟨⟨⟨x1,x2⟩,_⟩,y,z,⟨⟨u1,u2⟩,_⟩,_⟩,v⟩:=h1;exact⟨⟨⟨⟨hc' _ x1,x2⟩,by cases c'<;>first| (simp[qS];done)|simp[cE]at hct⟩,y,z,⟨⟨hd' _ u1,u2⟩,by cases d'<;>first| (simp[qS];done)|simp[cE]at hdt⟩,trivial⟩,by simp[qS]⟩
theorem RG[Fen]{P:Program}{f:Nat}{K KP:V->List aS->Prop}{mv nv kv:V}{m:bK}{n:Int}{k:Key}{r:aS}(hr:r≠ .yet)(hm:A7 mv=some m)(hn:rI .i64 nv=some n)(hk:rK kv=some k)
  (h:aM P f [.lp 0 0] [.ro (.blk o6 (iP (.it .i64 m.code) m n (.it .i64 k.kind) k)),r] K KP):aM P f [.lp 0 0] [.ro (.blk o6 (.ag [mv,.lp 1 0,nv,kv])),r] K KP:=by
 obtain⟨m1,m2⟩:=CT _ _ hm;obtain⟨n1,n2⟩:=iO .i64 _ _ hn;obtain⟨k1,k2⟩:=iF _ _ hk;refine GA hr (fun J=>?_) (fun K h1=>?_) rfl h
 ·simp only[cells,iP,den,br,m1 J,n1 J,k1 J,tU,Value.cells,dv,i64];simp
 ·obtain⟨⟨x,y,z,u,_⟩,_⟩:=h1;obtain⟨a1,a2,a3,a4,a5,a6⟩:=(k2 K u:k.wf);exact⟨⟨gi (m2 K x),y,n2 K z,⟨⟨a1,a2,a3,a4,a5,a6,trivial⟩,by simp[qS]⟩,trivial⟩,by simp[qS,tU]⟩
def oc(a b:Int)(k:Key)(m:bK):Bool:=decide (k.kind=a)&&decide (m.code=b)
theorem yJ{c:Int}{k:Key}(h:k.kind=c):kk c k=k:=by subst h;rfl
theorem JL{c:Int}{m:bK}(h:m.code=c):mm c m=m:=by subst h;rfl
def odX(nid:Nat):V:= .mp nid
def Ke(nid:Nat):List aS:= [.mq [[1,1],[2,1],[2,2],[2,3],[2,4],[2,5],[2,6],[3,1],[3,2],[3,3],[3,4],[3,5],[4,1],[4,2],[4,3],[4,4],[4,5],[4,6],[5,1],[5,2],[5,3],[5,4],[5,5],[5,6],[5,7],[8,1],[8,2],[8,3],[9,1],[10,1]] [.fn 132 [],.fn 134 [],.fn 138 [],.fn 140 [],.fn 143 [],.fn 145 [],.fn 146 [],.fn 147 [],.fn 148 [],.fn 150 [],.fn 152 [],.fn 145 [],.fn 201 [.lp (nid+1) 0],.fn 201 [.lp (nid+1+1) 0],.fn 155 [],.fn 157 [],.fn 159 [],.fn 160 [],.fn 161 [],.fn 164 [],.fn 165 [],.fn 167 [],.fn 168 [],.fn 169 [],.fn 170 [],.fn 171 [],.fn 172 [],.fn 175 [],.fn 177 [],.fn 178 []],.blk 40 (.ci .i64 1),.blk 40 (.ci .i64 2)]
end Go.Sx
namespace Go.Proofs.YtmfbohanboiklaaGreat
open Go.Sx
theorem Pr(k:Key)(r:Int)(hq:ye k r):
 ((!aR k||decide (r<0)||decide (7<r))=true->False)/\((!aR k||decide (r<0)||decide (7<r))=false->Key.mk k.kind k.oid k.count k.call (bu BinOp.or IntKind.i64 k.rights
   (bu BinOp.and IntKind.i64 r (dg k.kind))) k.value=mP k r):=by
 obtain⟨hk,h0,h7⟩:=hq;have hr:=ga hk;refine⟨fun h=>?_,fun _=>?_⟩
 ·simp[hk]at h;omega
 obtain⟨kind,oid,count,call,rights,value⟩:=k;simp only at hr⊢;unfold mP cU;by_cases h2:kind=2
 ·subst h2;have:=Ow (a:=rights) (r:=r) (by have:dg 2=7:=rfl;omega) ⟨h0,h7⟩
  simp only[if_true,show dg 2=7 from rfl,this]
 ·by_cases h3:kind=3
  ·subst h3;have:=Rx (a:=rights) (r:=r) (by have:dg 3=1:=rfl;omega) ⟨h0,h7⟩
   simp only[show¬(3:Int)=2 by omega,if_false,if_true,show dg 3=1 from rfl,this]
  ·have hm:dg kind=0:=by unfold dg;simp[h2,h3]
   have hz:rights=0:=by omega
   subst hz;simp only[h2,h3,if_false,hm,Pz ⟨h0,h7⟩]
theorem EK[Fen]:dO Tryz.prog 192 ZX:=
 kW (ba nX (ba fx dq)) (fun _=>rfl) fun a hq hok=>by
  obtain⟨k,r,_⟩:=a;exact bP (inl:=cH) (ann:=bn) (aH wL aP) (Pr k r hq) (by kernel_rfl)
theorem V2(a b:Key)(ha:a.wf)(hb:b.wf):
 au (!aR a|| !aR b) (false=je a b) (au (decide (a.kind=0)||A4 a b) (true=je a b) ((mW a.kind&&decide (a.kind=b.kind)&&decide (a.oid=b.oid)&&decide (a.count=b.count)&&decide (bu BinOp.andNot IntKind.i64 b.rights a.rights=0))=je a b)):=by
 delta au
 unfold je;cases ha1:aR a
 ·simp
 cases hb1:aR b
 ·simp
 have hra:=ga ha1;have hrb:=ga hb1;refine⟨fun h=>by simp at h,fun _=>⟨fun h=>by simp only[h,Bool.true_and,Bool.true_or],fun h=>?_⟩⟩
 rw[h];simp only[Bool.true_and,Bool.false_or];by_cases hk:a.kind=b.kind
 ·by_cases h2:a.kind=2
  ·have m1:dg a.kind=7:=by rw[h2];rfl
   have m2:dg b.kind=7:=by rw[<-hk,h2];rfl
   rw[Bu (by omega) (by omega)]
   simp[mW,h2]
  ·by_cases h3:a.kind=3
   ·have m1:dg a.kind=1:=by rw[h3];rfl
    have m2:dg b.kind=1:=by rw[<-hk,h3];rfl
    rw[Bu (by omega) (by omega)]
    simp[mW,h3]
   ·simp[mW,h2,h3]
 ·simp[hk]
theorem Ww[Fen]:dO Tryz.prog 57 Ya:=
 tZ iF iF (fun _ _=>rfl) fun a b ha hb=>bP (inl:=cH) (ann:=bn) (aH wL aP) (V2 a b ha hb) (by kernel_rfl)
end Go.Proofs.YtmfbohanboiklaaGreat
