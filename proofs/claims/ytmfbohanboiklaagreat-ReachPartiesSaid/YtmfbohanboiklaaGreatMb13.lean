import Derived.Test.YtmfbohanboiklaaGreatMb12
set_option linter.unusedSimpArgs false
set_option linter.unusedVariables false
set_option maxRecDepth 100000
namespace Go.Sx
def vo(o:Obj):Bool:=decide (o.kind=1)&&decide ((o.slots.at 2).kind=1)&&decide (0<=(o.slots.at 2).value)&&decide ((o.slots.at 2).value<=2)
def dM(L:List Obj)(i:Int):Bool:=vo (aS L i)
def iv(L:List Obj)(i:Int):Int:=if dM L i=true then((aS L i).slots.at 2).value else 0
def cH(L:List Obj)(i:Int):Int:=if dM L i=true then((aS L i).slots.at 2).value else -1
def iQ:ky (Int×Unit):=bM iA jx
theorem UX:iF iQ:=aZ fk dg
def W8:Ct:=EU (bM Wl iQ) (fun _=>none) fun x=> .it .i64 (cH x.1 x.2.1)
def Ys:Ct:=EU (bM sA iQ) (fun _=>none) fun x=> .tp [.it .i64 (iv (ye x.1) x.2.1),.bo (dM (ye x.1) x.2.1)]
theorem Pc{L:List Obj}{i:Int}(h:i<0\/(L.length:Int)<=i):aS L i=free:=by
 unfold aS;rw[aq fun e=>by have:=kc.1 e;omega]
theorem uk(o:Obj):vo o=true↔o.kind=1/\(o.slots.at 2).kind=1/\0<=(o.slots.at 2).value/\(o.slots.at 2).value<=2:=by
 unfold vo;simp only[af,ah,and_assoc]
theorem s5{L:List Obj}{i:Int}(h:dM L i=false):cH L i= -1/\iv L i=0:=by
 unfold cH iv;rw[h];exact⟨rfl,rfl⟩
theorem lI{L:List Obj}{i:Int}(h:dM L i=true):cH L i=((aS L i).slots.at 2).value/\iv L i=((aS L i).slots.at 2).value:=by
 unfold cH iv;rw[h];exact⟨rfl,rfl⟩
theorem xt(o:Obj):(!decide (o.kind=1)|| !decide ((o.slots.at 2).kind=1)||decide ((o.slots.at 2).value<0)||decide (2<(o.slots.at 2).value))= !vo o:=by
 have h:=uk o;cases hp:vo o with
 |true=>
  obtain⟨a,b,c,d⟩:=h.1 hp;have c':¬(o.slots.at 2).value<0:=by omega
  have d':¬2<(o.slots.at 2).value:=by omega
  simp[a,b,c',d']
 |false=>
  rw[Bool.not_false,Bool.or_eq_true,Bool.or_eq_true,Bool.or_eq_true,Bool.not_eq_true',Bool.not_eq_true',decide_eq_false_iff_not,decide_eq_false_iff_not,ah,ah];rw[hp]at h;have hn:¬(o.kind=1/\(o.slots.at 2).kind=1/\0<=(o.slots.at 2).value/\(o.slots.at 2).value<=2):=fun hh=>by have:=h.2 hh;simp at this
  omega
def fx(L:List Obj)(i st:Int):Int:=if aJ L=0 then 1 else if¬(aS L i).kind=1 then 230 else if st<0\/2<st then 2 else 0
def Ei(o:Obj)(st:Int):Obj:= {o with slots:=o.slots.put 2 (dV st)}
def jq(L:List Obj)(i st:Int):List Obj:=if fx L i st=0 then eW L i.toNat (Ei (aS L i) st)else L
def iiQ:ky (Int×Int×Unit):=bM iA (bM iA jx)
theorem VP:iF iiQ:=aZ fk (aZ fk dg)
def Y0:kr:=Ix (IP iiQ) (fun L _=>aP L) (fun L x=> .it .i64 (fx L x.1 x.2.1)) fun L x=>jq L x.1 x.2.1
structure bP where
 code:Int
 data:ByteArray
 k0:Key
 k1:Key
 k2:Key
def sS(m:bP):V:= .ag [.it .i64 m.code,.st m.data,.ag [.key m.k0,.key m.k1,.key m.k2]]
def eV:bP:=⟨0,⟨#[]⟩,void,void,void⟩
def zs(v:V):Option bP:=
 match v with
 | .ag l=>match l with
   | [a,b,c]=>match rI .i64 a with
     |some n=>match EH b with
      |some s=>match c with
       | .ag l'=>match l' with
         | [x,y,z]=>match rK x with
           |some k=>match rK y with
            |some k'=>match rK z with
             |some k''=>some ⟨n,s,k,k',k''⟩
             |none=>none
            |none=>none
           |none=>none
         |_=>none
       |_=>none
      |none=>none
     |none=>none
   |_=>none
 |_=>none
theorem Cb:sm zs sS:=by
 intro v x h;unfold zs at h;split at h
 case h_2=>simp at h
 split at h
 case h_2=>simp at h
 rename_i a b c;split at h
 case h_2=>simp at h
 rename_i n hn;split at h
 case h_2=>simp at h
 rename_i s hs;split at h
 case h_2=>simp at h
 split at h
 case h_2=>simp at h
 rename_i p q r;split at h
 case h_2=>simp at h
 rename_i k hk;split at h
 case h_2=>simp at h
 rename_i k' hk';split at h<;>simp only[aa,reduceCtorEq]at h
 rename_i k'' hk'';subst h;refine⟨fun J=>?_,fun K hK=>?_⟩
 ·simp only[den,sS,bp,(gX .i64 _ _ hn).1 J,(xb _ _ hs).1 J,(gI _ _ hk).1 J,(gI _ _ hk').1 J,(gI _ _ hk'').1 J]
 ·obtain⟨h1,h2⟩:=hK;obtain⟨g1,g2⟩:=h1.2.2.1;exact⟨⟨(gX .i64 _ _ hn).2 K h1.1,(xb _ _ hs).2 K h1.2.1,⟨⟨(gI _ _ hk).2 K g1.1,(gI _ _ hk').2 K g1.2.1,(gI _ _ hk'').2 K g1.2.2.1,trivial⟩,by simp[qg]⟩,trivial⟩,by simp[qg]⟩
def mA:Arg bP:=CN zs sS
theorem N6:mZ mA:=rL Cb (fun _=>rfl) fun v x h=>by cases v<;>simp[zs]at h;rfl
def jj(L:List Obj)(m:bP):Bool:=decide (du m.data<=32)&&cJ L m.k0&&cJ L m.k1&&cJ L m.k2
def nu(L:List Obj)(m:bP):bP:=⟨m.code,m.data,aI L m.k0,aI L m.k1,aI L m.k2⟩
def H6(s:cC)(m:bP)(a:Key):cC:=(((((s.put 2 (dV 1)).put 3 (dV m.code)).put 12 m.k0).put 13 m.k1).put 14 m.k2).put 15 a
def L0(s:ByteArray)(g:Int):Bytes:=wD (fo.put 0 (UInt8.ofNat s.size)) 1 g.toNat s
def xA(o:Obj)(m:bP)(a:Key):Obj:=⟨o.kind,o.count,o.calls,H6 o.slots m a,L0 m.data (du m.data)⟩
def HC(L:List Obj)(i:Int)(m:bP)(a:Key):List Obj:=eW L i.toNat (xA (aM L i.toNat free) m a)
def dD(L:List Obj)(i:Int)(k:Key)(md:Int)(m:bP):Int:=
 if aJ L=0 then 1 else if¬(1<=md/\md<=3)\/cJ L k=false\/jj L m=false then 2 else if cH L i≠1 then 230
 else if bm L k=false\/¬(k.kind=6\/k.kind=7)\/cH L k.oid<0 then 231
 else if(k.kind=6/\cH L k.oid≠0/\¬(md=3/\k.oid=i))\/(k.kind=7/\cH L k.oid≠2)then 232
 else if(k.kind=7/\4294967295<=(aM L k.oid.toNat free).calls)\/(md=1/\4294967295<=(aM L i.toNat free).calls)then 233 else 0
def kF(L:List Obj)(i md:Int):Key:=if md=1 then⟨7,i,(aM L i.toNat free).count,(aM L i.toNat free).calls,0,0⟩else void
def jr(md:Int):Int:=if md=1 then 2 else if md=2 then 1 else 0
def Hw(L:List Obj)(i:Int)(k:Key)(md:Int)(m:bP):Prop:=
 aJ L≠0/\(1<=md/\md<=3)/\cJ L k=true/\jj L m=true/\cH L i=1/\bm L k=true/\(k.kind=6\/k.kind=7)/\0<=cH L k.oid/\
 ¬((k.kind=6/\cH L k.oid≠0/\¬(md=3/\k.oid=i))\/(k.kind=7/\cH L k.oid≠2))/\¬(k.kind=7/\4294967295<=(aM L k.oid.toNat free).calls)
def ry(L:List Obj)(i:Int)(k:Key)(md:Int)(m:bP):Prop:=dD L i k md m=0
def Ut(o:Obj):Obj:= {o with calls:=o.calls+1}
def ir(L:List Obj)(i md:Int):List Obj:=eW L i.toNat (Ei (aM L i.toNat free) (jr md))
def je(L:List Obj)(i:Int)(k:Key)(md:Int):List Obj:=if k.kind=7 then eW (ir L i md) k.oid.toNat (Ut (aM (ir L i md) k.oid.toNat free))else ir L i md
def gx(L:List Obj)(i:Int)(k:Key)(md:Int)(m:bP):List Obj:=if dD L i k md m=0 then HC (je L i k md) k.oid (nu L m) (kF L i md)else L
def kh(L:List Obj)(i:Int)(m:bP):Int:=if aJ L=0 then 1 else if jj L m=false then 2 else if cH L i≠1 then 230 else 0
def ma(L:List Obj)(i:Int)(m:bP):List Obj:=if kh L i m=0 then HC L i (nu L m) void else L
abbrev tM:Nat:=66
def ivB:ky (Int×Key×Int×bP×Unit):=bM iA (bM kA (bM iA (bM mA jx)))
theorem Vr:iF ivB:=aZ fk (aZ mT (aZ fk (aZ N6 dg)))
def anB:ky (Int×bP×Unit):=bM iA (bM mA jx)
theorem VY:iF anB:=aZ fk (aZ N6 dg)
def Yu:kr:=X0 (IP ivB) (fun x=>aR x.2.2.2.1.data) (fun L x=>aP L/\aR x.2.2.2.1.data) (fun L x=> .it .i64 (dD L x.1 x.2.1 x.2.2.1 x.2.2.2.1)) fun L x=>gx L x.1 x.2.1 x.2.2.1 x.2.2.2.1
def Zc:kr:=X0 (IP anB) (fun x=>aR x.2.1.data) (fun L x=>aP L/\aR x.2.1.data) (fun L x=> .it .i64 (kh L x.1 x.2.1)) fun L x=>ma L x.1 x.2.1
def FZ:Ct:=fun res _ xs=>match xs with
 | [a]=>match rS tS eS res a with
   |some (_,L)=>match L with
    | []=>some (none,.ci .i64 0,[])
    |_=>none
   |none=>none
 |_=>none
theorem SE[Fen]{P:Program}{f:Nat}(h:dq P f Fy):dq P f FZ:=by
 intro J fps res K w0 F0 w nid args q x new hH hargs hg hq hfr;unfold FZ at hg;split at hg
 case h_2=>simp at hg
 rename_i a;split at hg
 case h_2=>simp at hg
 rename_i o L hr;split at hg<;>simp only[aa,ae,reduceCtorEq]at hg
 obtain⟨rfl,rfl,rfl⟩:=hg;obtain⟨h1,h2⟩:=h J fps res K w0 F0 w nid [a] none (.it .i64 (aK [])) [] hH hargs (by unfold Fy XL;simp only[hr]) trivial hfr
 refine⟨h1.mono ?_,h2⟩;rintro e w' ⟨v,he,ρ',g,hv,_⟩
 refine⟨v,he,ρ',g,hv,?_⟩;simp[ok,ck]
def kdX(nid:Nat):V:= .mp nid
def kdN(nid:Nat):List aQ:= [.mp .i64 [6,7] [.fn 106 [],.fn 107 []]]
def dw(L:List Obj)(g:Int):List Int:=((List.range g.toNat).filter fun(j:Nat)=>decide (cH L (j:Int)=1)).map Int.ofNat
def gE(L:List Obj)(g:Int):Prop:=0<=g/\g<=(aJ L:Int)
def gr(L:List Obj):Prop:=L.length<=1000
def V6:kr:=KO (bM Wl jx) (fun x=>gr x.1) (fun _=>true) (fun _=>jZ) (fun _ n=> .sa n) fun x=> .arr (some tI) 1 (.it .i64 (dw x.1 (bK (aJ x.1))))
def Zu:kr:=KO (bM sA jx) (fun x=>gr (ye x.1)) (fun _=>true) (fun _=>jZ) (fun _ n=> .sa n) fun x=> .arr (some tI) 1 (.it .i64 (dw (ye x.1) (bK (aJ (ye x.1)))))
theorem Ou{L:List Obj}{i:Int}(h:(aS L i).kind=1):0<=i/\i<(L.length:Int)/\aS L i=aM L i.toNat free:=by
 by_cases hr:i<0\/(L.length:Int)<=i
 ·rw[Pc hr]at h;simp[free]at h
 ·exact⟨by omega,by omega,fH (by omega) (by omega)⟩
theorem vy{L:List Obj}{i:Int}(h:dM L i=true):0<=i/\i<(L.length:Int)/\aS L i=aM L i.toNat free/\(aM L i.toNat free).kind=1:=by
 have hk:=((uk _).1 h).1;obtain⟨a,b,c⟩:=Ou hk;rw[c]at hk;exact⟨a,b,c,hk⟩
theorem v8{L:List Obj}{i:Int}:(0<=cH L i↔dM L i=true)/\(cH L i<0↔dM L i=false):=by
 cases h:dM L i with
 |false=>rw[(s5 h).1];simp
 |true=>
  have h2:=(lI h).1;have h3:=((uk _).1 h).2.2.1;rw[<-h2]at h3;simp;exact h3
theorem G6{L:List Obj}{i:Int}:(dM L i&&decide (iv L i=1))=decide (cH L i=1):=by
 cases h:dM L i with
 |false=>rw[(s5 h).1];simp
 |true=>rw[(lI h).1,(lI h).2];simp
theorem Zv{L:List Obj}{i:Int}(h:dM L i=true):iv L i=cH L i:=by rw[(lI h).1,(lI h).2]
theorem Ni{o:Obj}{n st:Int}(h:bS o n=true)(hk:o.kind=1):bS (Ei o st) n=true:=by
 have hn:=(dU.1 h).1;exact y9 h hk (RV (by omega) (rW h hk) (sg (by omega) _))
theorem L4{o:Obj}{n:Int}(h:bS o n=true)(hk:o.kind=1)(hc:o.calls<4294967295):bS (Ut o) n=true:=by
 obtain⟨a1,a2,a3,a4,a5,a6,a7,a8,a9,a10,a11⟩:=dU.1 h;rw[dU];exact⟨a1,a2,a3,a4,a5,a6,by show 0<=o.calls+1;omega,by show o.calls+1<=4294967295;omega,.inl hk,a10,a11⟩
theorem N7{o:Obj}{n:Int}{s:cC}{b:Bytes}(h:bS o n=true)(hk:o.kind=1)(hs:∀i,i<16->dr n (s.at i)):bS (kK (gw o s) b) n=true:=by
 have h':bS (gw o s) n=true:=y9 h hk hs;have hk':(gw o s).kind=1:=hk;exact OT h' (Or.inl hk')
theorem Oy{o:Obj}{n:Int}{m:bP}{a:Key}(h:bS o n=true)(hk:o.kind=1)(h0:dr n m.k0)(h1:dr n m.k1)(h2:dr n m.k2)(ha:dr n a):bS (xA o m a) n=true:=by
 have hn:=(dU.1 h).1
 have hs:∀i,i<16->dr n ((H6 o.slots m a).at i):=fun i hi=>by
  unfold H6;rw[cC.fP _ _ _ _ (by omega),cC.fP _ _ _ _ (by omega),cC.fP _ _ _ _ (by omega),cC.fP _ _ _ _ (by omega),cC.fP _ _ _ _ (by omega),cC.fP _ _ _ _ (by omega)]
  split
  ·exact ha
  ·split
   ·exact h2
   ·split
    ·exact h1
    ·split
     ·exact h0
     ·split
      ·exact sg (by omega) _
      ·split
       ·exact sg (by omega) _
       ·exact rW h hk i hi
 have e:xA o m a=kK (gw o (H6 o.slots m a)) (L0 m.data (du m.data)):=by unfold xA kK gw;rfl
 rw[e];exact N7 h hk hs
theorem CV{n:Int}(hn:0<=n):dr n void:=⟨mC.1,by rw[mC.2];omega⟩
theorem TB{n i c d:Int}(h0:0<=i)(h1:i<n)(h2:n<=64)(c0:0<=c)(c1:c<=4294967295)(d0:0<=d)(d1:d<=4294967295):dr n ⟨7,i,c,d,0,0⟩:=by
 have hk:bc ⟨7,i,c,d,0,0⟩=true:=by
  unfold bc iU dt ft eE ea;simp;omega
 refine⟨hk,?_⟩;unfold bu;rw[hk];simp[dt];omega
theorem Ik{L:List Obj}(hL:0<L.length)(m:bP):dr (L.length:Int) (nu L m).k0/\dr (L.length:Int) (nu L m).k1/\dr (L.length:Int) (nu L m).k2:=⟨oB hL _,oB hL _,oB hL _⟩
theorem PB{s:ByteArray}(h:du s<=32):Kq (fo.put 0 (WM (du s))) (Int.toNat 1) (Int.toNat 64) s=L0 s (du s):=by
 have hz:(s.size:Int)<=32:=h;have e:Nat.min s.size (64-1)=s.size:=Nat.min_eq_left (by omega)
 show wD _ 1 (Nat.min s.size (64-1)) s=wD _ 1 (du s).toNat s
 rw[e];rfl
theorem UK{L:List Obj}{i st:Int}(h:fx L i st=0):(0<=i/\i<(L.length:Int))/\aS L i=aM L i.toNat free/\(aM L i.toNat free).kind=1/\0<=st/\st<=2:=by
 unfold fx at h;split at h
 ·omega
 ·split at h
  ·omega
  ·split at h
   ·omega
   ·rename_i h1 h2 h3;have h2:(aS L i).kind=1:=by omega
    obtain⟨a,b,c⟩:=Ou h2;exact⟨⟨a,b⟩,c,by rw[<-c];exact h2,by omega,by omega⟩
theorem Od{L:List Obj}{i st:Int}(hL:aP L):aP (jq L i st):=by
 unfold jq;split
 ·rename_i h;obtain⟨⟨a,b⟩,c,d,_⟩:=UK h;rw[c];exact lK hL (Ni (dH hL _ (by omega)) d)
 ·exact hL
theorem E3{L:List Obj}{i st e:Int}(h:fx L i st=e)(he:e≠0):e=fx L i st/\L=jq L i st:=⟨h.symm,by unfold jq;rw[h,aq he]⟩
theorem ZV{L:List Obj}{i st:Int}(h:aJ L=0):fx L i st=1:=by unfold fx;rw[ar h]
theorem TV{L:List Obj}{i st:Int}(h:aJ L≠0)(h2:¬(aS L i).kind=1):fx L i st=230:=by unfold fx;rw[aq h,ar h2]
theorem Yr{L:List Obj}{i st:Int}(h:aJ L≠0)(h2:(aS L i).kind=1)(h3:st<0\/2<st):fx L i st=2:=by unfold fx;rw[aq h,aq (by omega),ar h3]
theorem UW{L:List Obj}{i st:Int}(h:aJ L≠0)(h2:(aS L i).kind=1)(h3:¬(st<0\/2<st)):fx L i st=0:=by unfold fx;rw[aq h,aq (by omega),aq h3]
theorem LQ{L:List Obj}{i st:Int}(hL:aP L)(h:fx L i st=0):fa L i (Ei (aS L i) st)=0/\cM L i (Ei (aS L i) st)=jq L i st:=by
 obtain⟨⟨a,b⟩,c,d,_⟩:=UK h;obtain⟨p1,p2⟩:=lu a b (Ni (st:=st) (dH hL _ (by omega)) d)
 rw[c,p1,p2];refine⟨rfl,?_⟩;unfold jq;rw[ar h,c]
theorem EW{L:List Obj}{m:bP}(h:jj L m=true):du m.data<=32:=by
 unfold jj at h;simp only[af,ah]at h;exact h.1.1.1
section
variable {L:List Obj} {i:Int} {k:Key} {md:Int} {m:bP}
theorem Z9(a:aJ L=0):dD L i k md m=1:=by unfold dD;rw[ar a]
theorem Fm(a:aJ L≠0)(b:¬(1<=md/\md<=3)\/cJ L k=false\/jj L m=false):dD L i k md m=2:=by unfold dD;rw[aq a,ar b]
theorem Pv(a:aJ L≠0)(b:¬(¬(1<=md/\md<=3)\/cJ L k=false\/jj L m=false))(c:cH L i≠1):dD L i k md m=230:=by unfold dD;rw[aq a,aq b,ar c]
theorem E2(a:aJ L≠0)(b:¬(¬(1<=md/\md<=3)\/cJ L k=false\/jj L m=false))(c:cH L i=1)(d:bm L k=false\/¬(k.kind=6\/k.kind=7)\/cH L k.oid<0):dD L i k md m=231:=by
 unfold dD;rw[aq a,aq b,aq (by omega),ar d]
theorem Fv(a:aJ L≠0)(b:¬(¬(1<=md/\md<=3)\/cJ L k=false\/jj L m=false))(c:cH L i=1)(d:¬(bm L k=false\/¬(k.kind=6\/k.kind=7)\/cH L k.oid<0))
  (e:(k.kind=6/\cH L k.oid≠0/\¬(md=3/\k.oid=i))\/(k.kind=7/\cH L k.oid≠2)):dD L i k md m=232:=by
 unfold dD;rw[aq a,aq b,aq (by omega),aq d,ar e]
theorem F2(a:aJ L≠0)(b:¬(¬(1<=md/\md<=3)\/cJ L k=false\/jj L m=false))(c:cH L i=1)(d:¬(bm L k=false\/¬(k.kind=6\/k.kind=7)\/cH L k.oid<0))
  (e:¬((k.kind=6/\cH L k.oid≠0/\¬(md=3/\k.oid=i))\/(k.kind=7/\cH L k.oid≠2))) (f:(k.kind=7/\4294967295<=(aM L k.oid.toNat free).calls)\/(md=1/\4294967295<=(aM L i.toNat free).calls)):dD L i k md m=233:=by
 unfold dD;rw[aq a,aq b,aq (by omega),aq d,aq e,ar f]
theorem aaF(a:aJ L≠0)(b:¬(¬(1<=md/\md<=3)\/cJ L k=false\/jj L m=false))(c:cH L i=1)(d:¬(bm L k=false\/¬(k.kind=6\/k.kind=7)\/cH L k.oid<0))
  (e:¬((k.kind=6/\cH L k.oid≠0/\¬(md=3/\k.oid=i))\/(k.kind=7/\cH L k.oid≠2))) (f:¬((k.kind=7/\4294967295<=(aM L k.oid.toNat free).calls)\/(md=1/\4294967295<=(aM L i.toNat free).calls))):dD L i k md m=0:=by
 unfold dD;rw[aq a,aq b,aq (by omega),aq d,aq e,aq f]
theorem Xg(h:dD L i k md m=0):aJ L≠0/\¬(¬(1<=md/\md<=3)\/cJ L k=false\/jj L m=false)/\cH L i=1/\¬(bm L k=false\/¬(k.kind=6\/k.kind=7)\/cH L k.oid<0)/\
  ¬((k.kind=6/\cH L k.oid≠0/\¬(md=3/\k.oid=i))\/(k.kind=7/\cH L k.oid≠2))/\¬((k.kind=7/\4294967295<=(aM L k.oid.toNat free).calls)\/(md=1/\4294967295<=(aM L i.toNat free).calls)):=by
 by_cases a:aJ L=0
 ·rw[Z9 a]at h;omega
 ·by_cases b:¬(1<=md/\md<=3)\/cJ L k=false\/jj L m=false
  ·rw[Fm a b]at h;omega
  ·by_cases c:cH L i=1
   ·by_cases d:bm L k=false\/¬(k.kind=6\/k.kind=7)\/cH L k.oid<0
    ·rw[E2 a b c d]at h;omega
    ·by_cases e:(k.kind=6/\cH L k.oid≠0/\¬(md=3/\k.oid=i))\/(k.kind=7/\cH L k.oid≠2)
     ·rw[Fv a b c d e]at h;omega
     ·by_cases f:(k.kind=7/\4294967295<=(aM L k.oid.toNat free).calls)\/(md=1/\4294967295<=(aM L i.toNat free).calls)
      ·rw[F2 a b c d e f]at h;omega
      ·exact⟨a,b,c,d,e,f⟩
   ·rw[Pv a b c]at h;omega
theorem nQ{e:Int}(h:dD L i k md m=e)(he:e≠0):e=dD L i k md m/\L=gx L i k md m:=⟨h.symm,by unfold gx;rw[h,aq he]⟩
theorem Pd(h:1<=md/\md<=3):0<=jr md/\jr md<=2/\aM [0,2,1,0] md.toNat 0=jr md/\y8 (decide (md=1)) 2 (y8 (decide (md=2)) 1 (y8 (decide (md=3)) 0 0))=jr md:=by
 have:md=1\/md=2\/md=3:=by omega
 rcases this with rfl|rfl|rfl<;>decide
theorem DR(hL:aP L)(hE:dD L i k md m=0):
 ((0<=i/\i<(L.length:Int))/\aS L i=aM L i.toNat free/\(aM L i.toNat free).kind=1)/\((0<=k.oid/\k.oid<(L.length:Int))/\aS L k.oid=aM L k.oid.toNat free/\(aM L k.oid.toNat free).kind=1)/\(fx L i (jr md)=0/\jq L i (jr md)=ir L i md)/\(aP (ir L i md)/\(ir L i md).length=L.length)/\(aP (je L i k md)/\(je L i k md).length=L.length)/\((aM (ir L i md) k.oid.toNat free).kind=1/\(aM (ir L i md) k.oid.toNat free).calls=(aM L k.oid.toNat free).calls)/\(aM (je L i k md) k.oid.toNat free).kind=1/\du m.data<=32/\dr (L.length:Int) (kF L i md):=by
 obtain⟨a,b,c,d,e,f⟩:=Xg hE
 have b1:1<=md/\md<=3:=by
  by_cases h:1<=md/\md<=3
  ·exact h
  ·exact absurd (.inl h) b
 have b3:jj L m=true:=by
  cases h:jj L m with
  |true=>rfl
  |false=>exact absurd (.inr (.inr h)) b
 have d3:0<=cH L k.oid:=by
  by_cases h:cH L k.oid<0
  ·exact absurd (.inr (.inr h)) d
  ·omega
 obtain⟨i0,i1,i2,i3⟩:=vy (v8.1.1 (by omega:0<=cH L i))
 obtain⟨k0,k1,k2,k3⟩:=vy (v8.1.1 d3);obtain⟨n0,n1,_,_⟩:=Pd b1;have hb:fx L i (jr md)=0:=UW a (by rw[i2];exact i3) (by omega)
 have h1:jq L i (jr md)=ir L i md:=by unfold jq ir;rw[ar hb,i2]
 have o1:aP (ir L i md):=by rw[<-h1];exact Od hL
 have l1:(ir L i md).length=L.length:=by unfold ir;rw[iL]
 have g1:(aM (ir L i md) k.oid.toNat free).kind=1/\(aM (ir L i md) k.oid.toNat free).calls=(aM L k.oid.toNat free).calls:=by
  unfold ir;rw[fN (by omega)]
  split
  ·rename_i e;rw[e];exact⟨i3,rfl⟩
  ·exact⟨k3,rfl⟩
 have l2:(je L i k md).length=L.length:=by
  unfold je;split
  ·rw[iL,l1]
  ·exact l1
 have o2:aP (je L i k md):=by
  unfold je;split
  ·rename_i h7;have hc:¬4294967295<=(aM L k.oid.toNat free).calls:=fun h=>f (.inl ⟨h7,h⟩)
   exact lK o1 (L4 (dH o1 _ (by rw[l1];omega)) g1.1 (by rw[g1.2];omega))
  ·exact o1
 have g2:(aM (je L i k md) k.oid.toNat free).kind=1:=by
  unfold je;split
  ·rw[fN (by rw[l1];omega),ar rfl];exact g1.1
  ·exact g1.1
 have ho:=dU.1 (dH hL i.toNat (by omega))
 have hn:=(jC hL)
 have hA:dr (L.length:Int) (kF L i md):=by
  unfold kF;split
  ·exact TB i0 i1 (by omega) ho.2.2.2.2.1 ho.2.2.2.2.2.1 ho.2.2.2.2.2.2.1 ho.2.2.2.2.2.2.2.1
  ·exact CV (by omega)
 exact⟨⟨⟨i0,i1⟩,i2,i3⟩,⟨⟨k0,k1⟩,k2,k3⟩,⟨hb,h1⟩,⟨o1,l1⟩,⟨o2,l2⟩,g1,g2,EW b3,hA⟩
theorem VO(hL:aP L)(hE:dD L i k md m=0):aP (gx L i k md m)/\(gx L i k md m).length=L.length/\cM (je L i k md) k.oid (xA (aS (je L i k md) k.oid) (nu L m) (kF L i md))=gx L i k md m:=by
 obtain⟨_,⟨⟨k0,k1⟩,_,_⟩,_,_,⟨o2,l2⟩,_,g2,_,hA⟩:=DR hL hE;obtain⟨f0,f1,f2⟩:=Ik (by have:=jC hL;omega:0<L.length) m
 have ho:=Oy (m:=nu L m) (a:=kF L i md) (dH o2 k.oid.toNat (by omega)) g2 (by rw[l2];exact f0) (by rw[l2];exact f1) (by rw[l2];exact f2) (by rw[l2];exact hA)
 have hq:gx L i k md m=eW (je L i k md) k.oid.toNat (xA (aM (je L i k md) k.oid.toNat free) (nu L m) (kF L i md)):=by unfold gx HC;rw[ar hE]
 rw[hq,fH k0 (by omega)]
 exact⟨lK o2 ho,by rw[iL,l2],(lu k0 (by omega) ho).1⟩
end
theorem u9(L:List Obj):dw L 0= []:=rfl
theorem vv(L:List Obj){g:Int}(h:0<=g):dw L (g+1)=if cH L g=1 then cE (dw L g) g else dw L g:=by
 unfold dw cE;rw[show(g+1).toNat=g.toNat+1 by omega,List.range_succ,List.filter_append,List.map_append]
 have e:((g.toNat:Nat):Int)=g:=by omega
 by_cases hp:cH L g=1
 ·rw[ar hp];simp[e,hp]
 ·rw[aq hp];simp[e,hp]
theorem DP(L:List Obj)(g:Int):aJ (dw L g)<=g.toNat:=by
 unfold dw aJ;rw[List.length_map];exact Nat.le_trans (List.length_filter_le _ _) (by rw[List.length_range];exact Nat.le_refl _)
theorem Dc{L:List Obj}{g:Int}(hl:gr L)(h1:g<(L.length:Int)):jU (aJ (dw L g)) 8:=by
 have:=DP L g;unfold gr at hl;unfold jU maxLen;omega
theorem C8{L:List Obj}{g:Int}(hl:gr L)(h0:gE L g)(h1:g<(L.length:Int)):bg IntKind.i64 (g+1)/\gE L (g+1)/\(bK (aJ L)-(g+1)).toNat<(bK (aJ L)-g).toNat:=by
 unfold gr at hl;unfold gE bK aJ at *;simp only[bg,ck];omega
end Go.Sx
namespace Go.Proofs.YtmfbohanboiklaaGreat
open Go.Sx
theorem Sg(L:List Sx.Obj)(i:Int):
 ((!(decide (i<0)||decide (bK (aJ L)<=i)))=true->0<=i/\i< ↑(aJ L))/\((!(decide (i<0)||decide (bK (aJ L)<=i)))=true->i.toNat<aJ L)/\au (decide (i<0)||decide (bK (aJ L)<=i)|| !decide ((aM L i.toNat free).kind=1)) (-1=cH L i) ((0<=i/\i< ↑(aJ L))/\i.toNat<aJ L/\au (!decide (((aM L i.toNat free).slots.at 2).kind=1)||decide (((aM L i.toNat free).slots.at 2).value<0)||decide (2<((aM L i.toNat free).slots.at 2).value)) (-1=cH L i) (((aM L i.toNat free).slots.at 2).value=cH L i)):=by
 delta au
 have hn:bK (aJ L)=(L.length:Int):=rfl;have hl:aJ L=L.length:=rfl;rw[hn,hl]
 have hin:∀{b:Bool},(!(decide (i<0)||decide ((L.length:Int)<=i)))=true->0<=i/\i<(L.length:Int):=fun h=>by
  simp only[Bool.not_eq_true',Bool.or_eq_false_iff,decide_eq_false_iff_not]at h;omega
 refine⟨fun h=>hin (b:=true) h,fun h=>by have:=hin (b:=true) h;omega,fun h=>?_,fun h=>?_⟩
 ·simp only[Bool.or_eq_true,Bool.not_eq_true',ah,decide_eq_false_iff_not]at h;refine(s5 ?_).1.symm;unfold dM;cases hb:vo (aS L i)with
  |false=>rfl
  |true=>
   exfalso
   have hk:=((uk _).1 hb).1;by_cases hr:i<0\/(L.length:Int)<=i
   ·rw[Pc hr]at hk;simp[free]at hk
   ·rw[fH (by omega) (by omega)]at hk
    omega
 ·simp only[Bool.or_eq_false_iff,Bool.not_eq_false',ah,decide_eq_false_iff_not]at h;have hr:0<=i/\i<(L.length:Int):=by omega
  have hg:aS L i=aM L i.toNat free:=fH hr.1 hr.2;have e:=xt (aM L i.toNat free);rw[show decide ((aM L i.toNat free).kind=1)=true from decide_eq_true h.2,Bool.not_true,Bool.false_or]at e;rw[e];refine⟨hr,by omega,fun h'=>?_,fun h'=>?_⟩
  ·exact(s5 (by unfold dM;rw[hg];simpa using h')).1.symm
  ·rw[(lI (by unfold dM;rw[hg];simpa using h')).1,hg]
theorem Qw[Fen]:dq Tryz.prog 21 W8:=
 kf (aZ Ft UX) (fun _=>rfl) fun a hq hok=>by
  obtain⟨L,i,_⟩:=a;exact bG (inl:=cg) (ann:=bj) aO (Sg L i) (by kernel_rfl)
theorem RF(i:Int):
 true=true/\au (!decide ((aS [] i).kind=1)|| !decide (((aS [] i).slots.at 2).kind=1)||decide (((aS [] i).slots.at 2).value<0)||decide (2<((aS [] i).slots.at 2).value)) (0=iv [] i/\false=dM [] i) (((aS [] i).slots.at 2).value=iv [] i/\true=dM [] i):=by
 delta au
 have e:=xt (aS [] i);rw[e];refine⟨rfl,fun h=>?_,fun h=>?_⟩
 ·have h:dM [] i=false:=by unfold dM;simpa using h
  exact⟨(s5 h).2.symm,h.symm⟩
 ·have h:dM [] i=true:=by unfold dM;simpa using h
  exact⟨(lI h).2.symm,h.symm⟩
theorem Vg(L:List Sx.Obj)(i:Int):
 true=true/\au (!decide ((aS L i).kind=1)|| !decide (((aS L i).slots.at 2).kind=1)||decide (((aS L i).slots.at 2).value<0)||decide (2<((aS L i).slots.at 2).value)) (0=iv L i/\false=dM L i) (((aS L i).slots.at 2).value=iv L i/\true=dM L i):=by
 delta au
 have e:=xt (aS L i);rw[e];refine⟨rfl,fun h=>?_,fun h=>?_⟩
 ·have h:dM L i=false:=by unfold dM;simpa using h
  exact⟨(s5 h).2.symm,h.symm⟩
 ·have h:dM L i=true:=by unfold dM;simpa using h
  exact⟨(lI h).2.symm,h.symm⟩
theorem qm[Fen]:dq Tryz.prog 65 Ys:=
 kf (aZ sH UX) (fun _=>rfl) fun a hq hok=>by
  obtain⟨S,i,_⟩:=a;cases S with
  |none=>exact bG (inl:=(abE [80])) (ann:=bj) (aH eT aO) (RF i) (by kernel_rfl)
  |some L=>exact bG (inl:=(abE [80])) (ann:=bj) (aH eT aO) (Vg L i) (by kernel_rfl)
theorem Ss(i st:Int):
 aw (au (!decide (0<aK [])) (1=fx [] i st) (aw (au (!decide ((aS [] i).kind=1)) (230=fx [] i st) (aw (au (!(decide (0<=st)&&decide (st<=2))) (2=fx [] i st) (aw (aw (fa [] i (Obj.mk (aS [] i).kind (aS [] i).count (aS [] i).calls ((aS [] i).slots.put 2 (aA st)) (aS [] i).bytes)=fx [] i st)))))))):=by
 delta au aA aw
 exact⟨rfl,fun h=>rfl,fun h=>absurd h (by decide)⟩
theorem Ro(i st:Int):
 aw (au (!decide (0<aK [])) (1=fx [] i st) (aw (au (!decide ((aS [] i).kind=1)) (230=fx [] i st) (aw (au (!(decide (0<=st)&&decide (st<=2))) (2=fx [] i st) (aw (aw False))))))):=by
 delta au aw
 exact⟨rfl,fun h=>rfl,fun h=>absurd h (by decide)⟩
abbrev aaN(L:List Sx.Obj)(i:Int)(st:Int):=Obj.mk (aS L i).kind (aS L i).count (aS L i).calls ((aS L i).slots.put 2 (aA st)) (aS L i).bytes
theorem VF(L:List Sx.Obj)(i st:Int)(hL:aP L):
 aw (au (!decide (0<aK L)) (1=fx L i st/\L=jq L i st) (aw (au (!decide ((aS L i).kind=1)) (230=fx L i st/\L=jq L i st) (aw (au (!(decide (0<=st)&&decide (st<=2))) (2=fx L i st/\L=jq L i st) (aw (aw (fa L i (aaN L i st)=fx L i st/\cM L i (aaN L i st)=jq L i st)))))))):=by
 delta au aA aaN aw
 have hq:∀b,(!decide (0<aK L))=b->(b=true->aJ L=0)/\(b=false->aJ L≠0):=fun b hb=>by
  subst hb;refine⟨fun h=>?_,fun h=>?_⟩
  ·have h1:¬0<aK L:=by simpa using h
   unfold aK at h1;omega
  ·have h1:0<aK L:=by simpa using h
   unfold aK at h1;omega
 refine⟨rfl,fun h=>E3 (ZV ((hq _ h).1 rfl)) (by omega),fun h=>⟨rfl,fun h2=>?_,fun h2=>⟨rfl,fun h3=>?_,fun h3=>⟨rfl,rfl,?_⟩⟩⟩⟩
 ·exact E3 (TV ((hq _ h).2 rfl) (by simpa using h2)) (by omega)
 ·exact E3 (Yr ((hq _ h).2 rfl) (by simpa using h2) (by simp only[Bool.not_eq_true',Bool.and_eq_false_iff,decide_eq_false_iff_not]at h3;omega)) (by omega)
 ·have hE:fx L i st=0:=UW ((hq _ h).2 rfl) (by simpa using h2) (by simp only[Bool.not_eq_false',af,ah]at h3;omega)
  rw[hE];exact LQ hL hE
theorem Vf[Fen](L:List Sx.Obj)(i st:Int)(hL:aP L):aL Tryz.prog 67 [.lp 0 0,.it .i64 i,.it .i64 st] [.store tS eS L] (z6 (.it .i64 (fx L i st)) (jq L i st)) (fun _ _=>False):=
 bk (inl:=(abE [83,90])) (ann:=bj) (aH bE (aH eT aO)) (aV dv aU) (dT kP) (VF L i st hL) (by kernel_rfl)
theorem NB[Fen]:k7 Tryz.prog 67 Y0:=
 na (m:=fun x=>iiQ.cn x 0) (ow VP (fun _=>rfl)) (fun _=>rfl) (fun _ _=>rfl) (fun x=>bk (inl:=(abE [83,90])) (ann:=bj) (aH bE (aH eT aO)) (aV dv aU) (dT kP) (Ss x.1 x.2.1) (by kernel_rfl)) (fun x=>bk (inl:=(abE [83,90])) (ann:=bj) (aH bE (aH eT aO)) (aV dv aU) (dT kP) (Ro x.1 x.2.1) (by kernel_rfl)) fun L x hL _ _=>Vf L x.1 x.2.1 hL
theorem Is:
 ∀(nid:Nat),some (V.mp nid)=some (V.mp nid)/\some [aQ.mp IntKind.i64 [6,7] [V.fn 106 [],V.fn 107 []]]=some [aQ.mp IntKind.i64
  [6,7] [V.fn 106 [],V.fn 107 []]]:=by
 exact fun nid=>⟨rfl,rfl⟩
theorem vA[Fen]:dq Tryz.prog 87 (zR kdX kdN):=uy (π:= [0]) (by decide) (fun _=>rfl) (bV (inl:=cg) (ann:=bj) aO aU Is (by kernel_rfl))
theorem rX[Fen]:dq Tryz.prog 29 FZ:=SE bE
theorem Qv(i:Int)(m:bP)(hs:aR m.data):
 true=true/\1=kh [] i m:=by
 exact⟨rfl,rfl⟩
theorem Tl(i:Int)(m:bP)(hs:aR m.data):
 true=true/\1=kh [] i m:=by
 exact⟨rfl,rfl⟩
theorem V9(L:List Sx.Obj)(i:Int)(m:bP)(hL:aP L)(hs:aR m.data):
 aw (au (!decide (0<aK L)) (1=kh L i m/\L=ma L i m) (aw (az (du m.data)/\aw (au (!decide (du m.data<=32)) (2=kh L i m/\L=ma L i m) (aw (aw (au (!(decide (bF m.k0=0)&&(!bq m.k0||decide (cw m.k0<aK L)))) (2=kh L i m/\L=ma L i m) (aw (aw (au (!(decide (bF m.k1=0)&&(!bq m.k1||decide (cw m.k1<aK L)))) (2=kh L i m/\L=ma L i m) (aw (aw (au (!(decide (bF m.k2=0)&&(!bq m.k2||decide (cw m.k2<aK L)))) (2=kh L i m/\L=ma L i m) (aw (au (!(dM L i&&decide (iv L i=1))) (230=kh L i m/\L=ma L i m) (aw (aw (aw (aw (aw (az (du m.data)/\bg IntKind.u8 (du m.data)/\AX 1 64 64/\aw (0=kh L i m/\cM L i (Obj.mk (aS L i).kind (aS L i).count (aS L i).calls (((((((aS L i).slots.put 2 (aA 1)).put 3 (aA m.code)).put 12 (aI L m.k0)).put 13 (aI L m.k1)).put 14 (aI L m.k2)).put 15 void) (Kq (fo.put 0 (WM (du m.data))) (Int.toNat 1) (Int.toNat 64) m.data))=ma L i m)))))))))))))))))))))):=by
 delta au aA az aw
 have no:∀e,kh L i m=e->e≠0->e=kh L i m/\L=ma L i m:=fun e h he=>⟨h.symm,by unfold ma;rw[h,aq he]⟩
 have hq1:(!decide (0<aK L))=true->aJ L=0:=fun h=>by
  have h1:¬0<aK L:=by simpa using h
  unfold aK at h1;omega
 have hq0:(!decide (0<aK L))=false->aJ L≠0:=fun h=>by
  have h1:0<aK L:=by simpa using h
  unfold aK at h1;omega
 have hsz:bg IntKind.i64 (du m.data):=by unfold aR at hs;simp only[bg,ck,du];omega
 have hs8:du m.data<=32->bg IntKind.u8 (du m.data):=fun h=>by simp only[bg,ck,du]at *;omega
 simp only[tz,G6];simp only[qZ,oM,qw,mG,decide_true,Bool.and_true,Bool.not_true,Bool.or_false,Bool.not_false,Bool.false_eq_true,Bool.true_eq_false,false_implies,implies_true,true_implies,true_and,and_true,and_self];have mk:jj L m=(decide (du m.data<=32)&&cJ L m.k0&&cJ L m.k1&&cJ L m.k2):=rfl
 have bad:aJ L≠0->jj L m=false->2=kh L i m/\L=ma L i m:=fun h hm=>no _ (by unfold kh;rw[aq h,ar hm]) (by omega)
 refine⟨fun h=>no _ (by unfold kh;rw[ar (hq1 h)]) (by omega),fun h=>⟨hsz,fun g1=>bad (hq0 h) ?_,fun g1=>⟨fun g2=>bad (hq0 h) ?_,fun g2=>⟨fun g3=>bad (hq0 h) ?_,fun g3=>⟨fun g4=>bad (hq0 h) ?_,fun g4=>⟨fun g5=>no _ ?_ (by omega),fun g5=>?_⟩⟩⟩⟩⟩⟩
 ·rw[mk,show decide (du m.data<=32)=false by simpa using g1];rfl
 ·rw[mk,show cJ L m.k0=false by simpa using g2];simp
 ·rw[mk,show cJ L m.k1=false by simpa using g3];simp
 ·rw[mk,show cJ L m.k2=false by simpa using g4];simp
 all_goals
  have hm:jj L m=true:=by
   rw[mk,show decide (du m.data<=32)=true by simpa using g1,show cJ L m.k0=true by simpa using g2,show cJ L m.k1=true by simpa using g3,show cJ L m.k2=true by simpa using g4];rfl
 ·unfold kh;rw[aq (hq0 h),aq (by simp[hm]),ar (by simpa using g5)]
 have g5':cH L i=1:=by simpa using g5
 have hE:kh L i m=0:=by unfold kh;rw[aq (hq0 h),aq (by simp[hm]),aq (by omega)]
 obtain⟨a,b,c,d⟩:=vy (v8.1.1 (by omega:0<=cH L i))
 refine⟨hsz,hs8 (EW hm),⟨by omega,by omega,by omega⟩,hE.symm,?_⟩
 obtain⟨f0,f1,f2⟩:=Ik (by have:=jC hL;omega:0<L.length) m
 have ho:=Oy (m:=nu L m) (a:=void) (dH hL i.toNat (by omega)) d f0 f1 f2 (CV (by omega))
 have e:Obj.mk (aS L i).kind (aS L i).count (aS L i).calls (((((((aS L i).slots.put 2 (Key.mk 1 void.oid void.count void.call void.rights 1)).put 3 (Key.mk 1 void.oid void.count void.call void.rights m.code)).put 12 (aI L m.k0)).put 13 (aI L m.k1)).put 14 (aI L m.k2)).put 15 void) (Kq (fo.put 0 (WM (du m.data))) (Int.toNat 1) (Int.toNat 64) m.data)=xA (aS L i) (nu L m) void:=by
  rw[PB (EW hm)];rfl
 rw[e,c,(lu a b ho).1];unfold ma HC;rw[ar hE]
theorem VJ[Fen](L:List Sx.Obj)(i:Int)(m:bP)(hL:aP L)(hs:aR m.data):aL Tryz.prog 66 [.lp 0 0,.it .i64 i,sS m] [.store tS eS L] (z6 (.it .i64 (kh L i m)) (ma L i m)) (fun _ _=>False):=
 bk (inl:=(abE [83,86,85,92,109,88,108,90])) (ann:=(kb [(86,2,UM 4)])) (aH bE (aH eT (aH fV (aH fW (aH dB (aH qm aO)))))) (aV dv aU) (dT kP) (V9 L i m hL hs) (by kernel_rfl)
theorem UZ[Fen]:k7 Tryz.prog 66 Zc:=
 BB (m:=fun x=>anB.cn x 0) (ow VY (fun _=>rfl)) (fun _=>rfl) (fun _ _=>rfl) (fun x hs=>bk (inl:=(abE [83,86,85,92,109,88,108,90])) (ann:=bj) (aH rX (aH eT (aH fV (aH fW (aH dB (aH qm aO)))))) (aV dv aU) (dT kP) (Qv x.1 x.2.1 hs) (by kernel_rfl)) (fun x hs=>bk (inl:=(abE [83,86,85,92,109,88,108,90])) (ann:=bj) (aH rX (aH eT (aH fV (aH fW (aH dB (aH qm aO)))))) (aV dv aU) (dT kP) (Tl x.1 x.2.1 hs) (by kernel_rfl)) fun L x hq=>VJ L x.1 x.2.1 hq.1 hq.2
theorem SX(i:Int)(k:Key)(md:Int)(m:bP)(hs:aR m.data):
 true=true/\1=dD [] i k md m:=by
 exact⟨rfl,rfl⟩
theorem Qs(i:Int)(k:Key)(md:Int)(m:bP)(hs:aR m.data):
 true=true/\1=dD [] i k md m:=by
 exact⟨rfl,rfl⟩
theorem Xm(L:List Sx.Obj)(i:Int)(k:Key)(md:Int)(m:bP)(hL:aP L)(hs:aR m.data):
 aw (au (!decide (0<aK L)) (1=dD L i k md m/\L=gx L i k md m) (aw (aw (au (!(decide (md=1)||(decide (md=2)||decide (md=3)))) (2=dD L i k md m/\L=gx L i k md m) (aw (aw (au (!(decide (bF k=0)&&(!bq k||decide (cw k<aK L)))) (2=dD L i k md m/\L=gx L i k md m) (aw (az (du m.data)/\aw (au (!decide (du m.data<=32)) (2=dD L i k md m/\L=gx L i k md m) (aw (aw (au (!(decide (bF m.k0=0)&&(!bq m.k0||decide (cw m.k0<aK L)))) (2=dD L i k md m/\L=gx L i k md m) (aw (aw (au (!(decide (bF m.k1=0)&&(!bq m.k1||decide (cw m.k1<aK L)))) (2=dD L i k md m/\L=gx L i k md m) (aw (aw (au (!(decide (bF m.k2=0)&&(!bq m.k2||decide (cw m.k2<aK L)))) (2=dD L i k md m/\L=gx L i k md m) (aw (au (!(dM L i&&decide (iv L i=1))) (230=dD L i k md m/\L=gx L i k md m) (aw (au (!((decide (k.kind=6)||decide (k.kind=7))&&bm L k)) (231=dD L i k md m/\L=gx L i k md m) ((au (decide (k.kind=6)) (aw (aw (au (!dM L k.oid) (231=dD L i k md m/\L=gx L i k md m) (aw (au (!(decide (iv L k.oid=0)||decide (md=3)&&decide (k.oid=i))) (232=dD L i k md m/\L=gx L i k md m) (∃g:Unit,Hw L i k md m/\i=i/\md=md/\L=L/\k=k/\m.code=m.code/\m.data=m.data/\aI L m.k0=aI L m.k0/\aI L m.k1=aI L m.k1/\aI L m.k2=aI L m.k2/\i=i/\k=k/\md=md/\y8 (decide (md=1)) 2 (y8 (decide (md=2)) 1 (y8 (decide (md=3)) 0 0))=jr md/\aS L i=aS L i)))))) (au (decide (k.kind=7)) (aw (aw (au (!dM L k.oid) (231=dD L i k md m/\L=gx L i k md m) (aw (au (!decide (iv L k.oid=2)) (232=dD L i k md m/\L=gx L i k md m) (aw (au (!decide ((aS L k.oid).calls<4294967295)) (233=dD L i k md m/\L=gx L i k md m) (∃g:Unit,Hw L i k md m/\i=i/\md=md/\L=L/\k=k/\m.code=m.code/\m.data=m.data/\aI L m.k0=aI L m.k0/\aI L m.k1=aI L m.k1/\aI L m.k2=aI L m.k2/\i=i/\k=k/\md=md/\y8 (decide (md=1)) 2 (y8 (decide (md=2)) 1 (y8 (decide (md=3)) 0 0))=jr md/\aS L i=aS L i)))))))) False))/\∀(g:Unit),Hw L i k md m->aw (au (!(!decide (md=1)||decide ((aS L i).calls<4294967295))) (233=dD L i k md m/\L=gx L i k md m) ((au (decide (md=1)) (∃g:Unit,ry L i k md m/\i=i/\md=md/\L=L/\k=k/\m.code=m.code/\m.data=m.data/\aI L m.k0=aI L m.k0/\aI L m.k1=aI L m.k1/\aI L m.k2=aI L m.k2/\i=i/\k=k/\md=md/\jr md=jr md/\aS L i=aS L i/\Key.mk 7 i (aS L i).count (aS L i).calls void.rights void.value=kF L i md) (∃g:Unit,ry L i k md m/\i=i/\md=md/\L=L/\k=k/\m.code=m.code/\m.data=m.data/\aI L m.k0=aI L m.k0/\aI L m.k1=aI L m.k1/\aI L m.k2=aI L m.k2/\i=i/\k=k/\md=md/\jr md=jr md/\aS L i=aS L i/\void=kF L i md))/\∀(g:Unit),ry L i k md m->(aw (aw (aw (aw (∃g:Unit,ry L i k md m/\i=i/\md=md/\cM L i (Obj.mk (aS L i).kind (aS L i).count (aS L i).calls ((aS L i).slots.put 2 (aA (jr md))) (aS L i).bytes)=ir L i md/\k=k/\m.code=m.code/\m.data=m.data/\aI L m.k0=aI L m.k0/\aI L m.k1=aI L m.k1/\aI L m.k2=aI L m.k2/\i=i/\k=k/\md=md/\jr md=jr md/\aS L i=aS L i/\kF L i md=kF L i md)))))/\∀(g:Unit),ry L i k md m->(au (decide (k.kind=7)) (aw (aw (az ((aS (ir L i md) k.oid).calls+1)/\aw (∃g:Unit,ry L i k md m/\i=i/\md=md/\cM (ir L i md) k.oid (Obj.mk (aS (ir L i md) k.oid).kind (aS (ir L i md) k.oid).count ((aS (ir L i md) k.oid).calls+1) (aS (ir L i md) k.oid).slots (aS (ir L i md) k.oid).bytes)=je L i k md/\k=k/\m.code=m.code/\m.data=m.data/\aI L m.k0=aI L m.k0/\aI L m.k1=aI L m.k1/\aI L m.k2=aI L m.k2/\i=i/\k=k/\md=md/\jr md=jr md/\aS L i=aS L i/\kF L i md=kF L i md)))) (∃g:Unit,ry L i k md m/\i=i/\md=md/\ir L i md=je L i k md/\k=k/\m.code=m.code/\m.data=m.data/\aI L m.k0=aI L m.k0/\aI L m.k1=aI L m.k1/\aI L m.k2=aI L m.k2/\i=i/\k=k/\md=md/\jr md=jr md/\aS L i=aS L i/\kF L i md=kF L i md))/\∀(g:Unit),ry L i k md m->aw (aw (aw (aw (aw (az (du m.data)/\bg IntKind.u8 (du m.data)/\AX 1 64 64/\aw (0=dD L i k md m/\cM (je L i k md) k.oid (Obj.mk (aS (je L i k md) k.oid).kind (aS (je L i k md) k.oid).count (aS (je L i k md) k.oid).calls (((((((aS (je L i k md) k.oid).slots.put 2 (aA 1)).put 3 (aA m.code)).put 12 (aI L m.k0)).put 13 (aI L m.k1)).put 14 (aI L m.k2)).put 15 (kF L i md)) (Kq (fo.put 0 (WM (du m.data))) (Int.toNat 1) (Int.toNat 64) m.data))=gx L i k md m)))))))))))))))))))))))))))))))):=by
 delta au aA az aw
 have hq1:(!decide (0<aK L))=true->aJ L=0:=fun h=>by
  have h1:¬0<aK L:=by simpa using h
  unfold aK at h1;omega
 have hq0:(!decide (0<aK L))=false->aJ L≠0:=fun h=>by
  have h1:0<aK L:=by simpa using h
  unfold aK at h1;omega
 have hsz:bg IntKind.i64 (du m.data):=by unfold aR at hs;simp only[bg,ck,du];omega
 have hs8:du m.data<=32->bg IntKind.u8 (du m.data):=fun h=>by simp only[bg,ck,du]at *;omega
 simp only[tz,G6];simp only[qZ,oM,qw,mG,decide_true,Bool.and_true,Bool.not_true,Bool.or_false,Bool.not_false,Bool.false_eq_true,Bool.true_eq_false,false_implies,implies_true,true_implies,true_and,and_true,and_self];have mk:jj L m=(decide (du m.data<=32)&&cJ L m.k0&&cJ L m.k1&&cJ L m.k2):=rfl
 refine⟨fun h=>nQ (Z9 (hq1 h)) (by omega),fun h=>⟨fun c1=>nQ (Fm (hq0 h) (.inl ?_)) (by omega),fun c1=>⟨fun c2=>nQ (Fm (hq0 h) (.inr (.inl ?_))) (by omega),fun c2=>⟨hsz,fun g1=>nQ (Fm (hq0 h) (.inr (.inr ?_))) (by omega),fun g1=>⟨fun g2=>nQ (Fm (hq0 h) (.inr (.inr ?_))) (by omega),fun g2=>⟨fun g3=>nQ (Fm (hq0 h) (.inr (.inr ?_))) (by omega),fun g3=>⟨fun g4=>nQ (Fm (hq0 h) (.inr (.inr ?_))) (by omega),fun g4=>?_⟩⟩⟩⟩⟩⟩⟩
 ·simp at c1;omega
 ·simpa using c2
 ·rw[mk,show decide (du m.data<=32)=false by simpa using g1];rfl
 ·rw[mk,show cJ L m.k0=false by simpa using g2];simp
 ·rw[mk,show cJ L m.k1=false by simpa using g3];simp
 ·rw[mk,show cJ L m.k2=false by simpa using g4];simp
 have hl:=hq0 h;have b1:1<=md/\md<=3:=by simp at c1;omega
 have b2:cJ L k=true:=by simpa using c2
 have b3:jj L m=true:=by
  rw[mk,show decide (du m.data<=32)=true by simpa using g1,show cJ L m.k0=true by simpa using g2,show cJ L m.k1=true by simpa using g3,show cJ L m.k2=true by simpa using g4];rfl
 have b:¬(¬(1<=md/\md<=3)\/cJ L k=false\/jj L m=false):=by
  rw[b2,b3];rintro(x|x|x)
  ·exact x b1
  ·exact Bool.noConfusion x
  ·exact Bool.noConfusion x
 refine⟨fun g5=>nQ (Pv hl b (by simpa using g5)) (by omega),fun g5=>?_⟩
 have c:cH L i=1:=by simpa using g5
 refine⟨fun g6=>nQ (E2 hl b c ?_) (by omega),fun g6=>?_⟩
 ·simp only[Bool.not_eq_true',Bool.and_eq_false_iff,Bool.or_eq_false_iff,decide_eq_false_iff_not]at g6;rcases g6 with⟨x,y⟩|x
  ·exact .inr (.inl (by omega))
  ·exact .inl x
 have d1:(k.kind=6\/k.kind=7)/\bm L k=true:=by simp at g6;exact⟨by omega,g6.2⟩
 have hd:(!dM L k.oid)=true->231=dD L i k md m/\L=gx L i k md m:=fun x=>nQ (E2 hl b c (.inr (.inr (v8.2.2 (by simpa using x))))) (by omega)
 have dd:0<=cH L k.oid->¬(bm L k=false\/¬(k.kind=6\/k.kind=7)\/cH L k.oid<0):=fun h0=>by
  rw[d1.2];rintro(x|x|x)
  ·exact Bool.noConfusion x
  ·exact x d1.1
  ·omega
 have hd':(!dM L k.oid)=false->0<=cH L k.oid/\iv L k.oid=cH L k.oid:=fun x=>by
  have hb:dM L k.oid=true:=by simpa using x
  exact⟨v8.1.2 hb,Zv hb⟩
 obtain⟨n0,n1,_,n3⟩:=Pd b1;rw[n3];refine⟨⟨fun h6=>⟨hd,fun x=>⟨fun y=>?_,fun y=>⟨⟨⟩,?_,rfl⟩⟩⟩,fun h6=>⟨fun h7=>⟨hd,fun x=>⟨fun y=>?_,fun y=>⟨fun z=>?_,fun z=>⟨⟨⟩,?_,rfl⟩⟩⟩⟩,fun h7=>?_⟩⟩,fun _ hF=>?_⟩
 ·obtain⟨p0,pv⟩:=hd' x;have h6':=ak h6;rw[pv]at y;refine nQ (Fv hl b c (dd p0) (.inl ⟨h6',?_⟩)) (by omega)
  simp only[Bool.not_eq_true',Bool.or_eq_false_iff,Bool.and_eq_false_iff,decide_eq_false_iff_not]at y;exact⟨y.1,fun hh=>y.2.elim (fun u=>u hh.1) (fun u=>u hh.2)⟩
 ·obtain⟨p0,pv⟩:=hd' x;have h6':=ak h6;rw[pv]at y;simp only[Bool.not_eq_false',Bool.or_eq_true,af,ah]at y;refine⟨hl,b1,b2,b3,c,d1.2,d1.1,p0,?_,fun hh=>by omega⟩
  rintro(⟨_,u,v⟩|⟨u,_⟩)
  ·exact y.elim u v
  ·omega
 ·obtain⟨p0,pv⟩:=hd' x;have h7':=ak h7;rw[pv]at y;exact nQ (Fv hl b c (dd p0) (.inr ⟨h7',by simpa using y⟩)) (by omega)
 ·obtain⟨p0,pv⟩:=hd' x;have h7':=ak h7;rw[pv]at y;have y':cH L k.oid=2:=by simpa using y
  obtain⟨_,_,k2,_⟩:=vy (v8.1.1 p0);rw[k2]at z;refine nQ (F2 hl b c (dd p0) ?_ (.inl ⟨h7',by simpa using z⟩)) (by omega)
  rintro(⟨u,_⟩|⟨_,u⟩)<;>omega
 ·obtain⟨p0,pv⟩:=hd' x;have h7':=ak h7;rw[pv]at y;have y':cH L k.oid=2:=by simpa using y
  obtain⟨_,_,k2,_⟩:=vy (v8.1.1 p0);rw[k2]at z;have z':(aM L k.oid.toNat free).calls<4294967295:=by simpa using z
  refine⟨hl,b1,b2,b3,c,d1.2,d1.1,p0,?_,fun hh=>by omega⟩
  rintro(⟨u,_⟩|⟨_,u⟩)<;>omega
 ·have h6':=aj h6;have h7':=aj h7;omega
 obtain⟨_,_,_,_,_,_,_,p0,f9,f10⟩:=hF;obtain⟨i0,i1,i2,i3⟩:=vy (v8.1.1 (by omega:0<=cH L i))
 rw[i2];refine⟨fun g7=>nQ (F2 hl b c (dd p0) f9 (.inr ?_)) (by omega),fun g7=>?_⟩
 ·simp only[Bool.not_eq_true',Bool.or_eq_false_iff,Bool.not_eq_false',ah,decide_eq_false_iff_not]at g7;omega
 have hE:dD L i k md m=0:=by
  refine aaF hl b c (dd p0) f9 ?_;simp only[Bool.not_eq_false',Bool.or_eq_true,Bool.not_eq_true',ah,decide_eq_false_iff_not]at g7;rintro(u|u)
  ·exact f10 u
  ·omega
 obtain⟨_,⟨⟨k0,k1⟩,_,_⟩,⟨hb,hb1⟩,⟨o1,l1⟩,⟨o2,l2⟩,⟨q1,q1c⟩,q2,hs32,hA⟩:=DR hL hE;obtain⟨_,_,hend⟩:=VO hL hE;refine⟨⟨fun h1=>⟨⟨⟩,hE,?_⟩,fun h1=>⟨⟨⟩,hE,?_⟩⟩,fun _ _=>⟨⟨⟨⟩,hE,?_⟩,fun _ _=>⟨⟨fun h7=>⟨?_,⟨⟩,hE,?_⟩,fun h7=>⟨⟨⟩,hE,?_⟩⟩,fun _ _=>⟨hsz,hs8 hs32,⟨by omega,by omega,by omega⟩,hE.symm,?_⟩⟩⟩⟩
 ·unfold kF;rw[ar (ak h1)];rfl
 ·unfold kF;rw[aq (aj h1)]
 ·have e:=(LQ hL hb).2;rw[hb1,i2]at e;exact e
 ·have ho:=dU.1 (dH o1 k.oid.toNat (by omega))
  rw[fH k0 (by omega)]
  have:=ho.2.2.2.2.2.2.1;have:=ho.2.2.2.2.2.2.2.1;simp only[bg,ck];omega
 ·have h7':=ak h7;have hc:¬4294967295<=(aM L k.oid.toNat free).calls:=fun h=>f10 ⟨h7',h⟩
  have e:=(lu k0 (by omega) (L4 (dH o1 k.oid.toNat (by omega)) q1 (by rw[q1c];omega))).1
  rw[fH k0 (by omega)]
  unfold je;rw[ar h7'];exact e
 ·unfold je;rw[aq (aj h7)]
 ·rw[PB hs32,hE]at *;exact hend
theorem VU[Fen](L:List Sx.Obj)(i:Int)(k:Key)(md:Int)(m:bP)(hL:aP L)(hs:aR m.data):aL Tryz.prog 63 [.lp 0 0,.it .i64 i,.key k,.it .i64 md,sS m] [.store tS eS L] (z6 (.it .i64 (dD L i k md m)) (gx L i k md m)) (fun _ _=>False):=
 bk (inl:=(abE [83,84,89,91,106,107,86,85,92,109,88,108,90])) (ann:=(kb [(86,2,UM 4),(63,2000015,lpC [0,1,3,7,10,11,12,15,20] (fun(_:Unit)=> []) (fun _=> [(12,.blk 136 (.it .i64 (jr md)))]) (fun _=> []) (fun _=>Hw L i k md m)),(63,2000019,lpC [0,1,3,7,10,11,12,15,20] (fun(_:Unit)=> []) (fun _=> [(20,.blk tK (.key (kF L i md)))]) (fun _=> []) (fun _=>ry L i k md m)),(63,2000020,lpC [0,1,3,7,10,11,12,15,20] (fun(_:Unit)=> []) (fun _=> []) (fun _=> [(0,.store tS eS (ir L i md))]) (fun _=>ry L i k md m)),(63,2000022,lpC [0,1,3,7,10,11,12,15,20] (fun(_:Unit)=> []) (fun _=> []) (fun _=> [(0,.store tS eS (je L i k md))]) (fun _=>ry L i k md m))])) (aH bE (aH eT (aH fV (aH fW (aH dB (aH qm (aH bT (aH vA aO)))))))) (aV dv aU) (dT kP) (Xm L i k md m hL hs) (by kernel_rfl)
theorem V3[Fen]:k7 Tryz.prog 63 Yu:=
 BB (m:=fun x=>ivB.cn x 0) (ow Vr (fun _=>rfl)) (fun _=>rfl) (fun _ _=>rfl) (fun x hs=>bk (inl:=(abE [83,84,89,91,106,107,86,85,92,109,88,108,90])) (ann:=bj) (aH rX (aH eT (aH fV (aH fW (aH dB (aH qm (aH bT (aH vA aO)))))))) (aV dv aU) (dT kP) (SX x.1 x.2.1 x.2.2.1 x.2.2.2.1 hs) (by kernel_rfl)) (fun x hs=>bk (inl:=(abE [83,84,89,91,106,107,86,85,92,109,88,108,90])) (ann:=bj) (aH rX (aH eT (aH fV (aH fW (aH dB (aH qm (aH bT (aH vA aO)))))))) (aV dv aU) (dT kP) (Qs x.1 x.2.1 x.2.2.1 x.2.2.2.1 hs) (by kernel_rfl)) fun L x hq=>VU L x.1 x.2.1 x.2.2.1 x.2.2.2.1 hq.1 hq.2
theorem S7(L:List Sx.Obj)(hl:gr L):
 (∃g,gE L g/\Value.slice none 0 0=Value.slice none 0 0/\0=g/\L=L/\[]=dw L g)/\∀(g:Int),gE L g->au (decide (g<bK (aJ L))) (au (decide (cH L g=1)) (jU (aJ (dw L g)) 8/\az (g+1)/\∃g',gE L g'/\(bK (aJ L)-g').toNat<(bK (aJ L)-g).toNat/\Value.slice none 0 0=Value.slice none 0 0/\g+1=g'/\L=L/\cE (dw L g) g=dw L g') (az (g+1)/\∃g',gE L g'/\(bK (aJ L)-g').toNat<(bK (aJ L)-g).toNat/\Value.slice none 0 0=Value.slice none 0 0/\g+1=g'/\L=L/\dw L g=dw L g')) (true=true/\∀(nid:Nat),some (V.sa nid)=some (V.sa nid)/\some [aQ.arr (some tI) 1 (TL.it IntKind.i64 (dw L g))]=some [aQ.arr (some tI) 1 (TL.it IntKind.i64 (dw L (bK (aJ L))))]):=by
 delta au az
 simp only[qZ,oM,qw,mG,decide_true,Bool.and_true,Bool.not_true,Bool.or_false,Bool.not_false,Bool.false_eq_true,Bool.true_eq_false,false_implies,implies_true,true_implies,true_and,and_true,and_self];refine⟨⟨0,⟨by omega,by omega⟩,rfl,(u9 L).symm⟩,fun g hg=>⟨fun h=>?_,fun h=>?_⟩⟩
 ·have h1:g<(L.length:Int):=ak h;obtain⟨s1,s2,s3⟩:=C8 hl hg h1;have e:=vv L hg.1;refine⟨fun h2=>⟨Dc hl h1,s1,g+1,s2,s3,rfl,?_⟩,fun h2=>⟨s1,g+1,s2,s3,rfl,?_⟩⟩
  ·rw[e,ar (ak h2)]
  ·rw[e,aq (aj h2)]
 ·have h1:¬g<(L.length:Int):=aj h;have:g=bK (aJ L):=by have:=hg.2;unfold bK aJ at *;omega
  rw[this];exact fun _=>rfl
theorem Rw[Fen](L:List Sx.Obj)(hl:gr L):aL Tryz.prog 8 [.sa 0] [.ro (.arr none 163 (.ob L))] (Bt true jZ (fun n=> .sa n) (.arr (some tI) 1 (.it .i64 (dw L (bK (aJ L)))))) (fun _ _=>False):=
 bV (inl:=cg) (ann:=(kb [(8,3,lpS [0,2] (fun g=> [(4,.it .i64 g)]) 3 tI 1 (fun g=> .it .i64 (dw L g)) (gE L) (bK (aJ L)))])) (aH Qw aO) aU (S7 L hl) (by kernel_rfl)
theorem Qr[Fen]:k7 Tryz.prog 8 V6:=
 yZ (aZ Ft dg) (fun _=>rfl) (fun _=>by simp) fun a hq hok=>by
  obtain⟨L,_⟩:=a;exact Rw L hq
theorem Rr:
 aw (aw (∀(r0:Loop),(∃g,gE [] g/\aK []=aK []/\0=g/\Value.pointer none=Value.pointer none/\r0=r0/\[]=dw [] g)/\∀(g:Int),gE [] g->au (decide (g<aK [])) False (aw (∀(nid:Nat),some (V.sa nid)=some (V.sa nid)/\some [aQ.arr (some tI) 1 (TL.it IntKind.i64 (dw [] g))]=some [aQ.arr (some tI) 1 (TL.it IntKind.i64 (dw [] (bK (aJ ([]:List Sx.Obj)))))])))):=by
 delta au aw
 simp only[qZ,oM,qw,mG,decide_true,Bool.and_true,Bool.not_true,Bool.or_false,Bool.not_false,Bool.false_eq_true,Bool.true_eq_false,false_implies,implies_true,true_implies,true_and,and_true,and_self];refine fun _=>⟨⟨0,⟨by omega,by unfold aJ;simp⟩,rfl,rfl⟩,fun g hg=>⟨fun h=>?_,fun h _=>?_⟩⟩
 ·have h1:g<aK []:=ak h;have:=hg.1;unfold aK aJ at h1;simp at h1;omega
 ·have:g=bK (aJ ([]:List Obj)):=by have:=hg.1;have:=hg.2;unfold bK aJ at *;simp at *;omega
  rw[this];rfl
theorem R2[Fen]:aL Tryz.prog 61 [jZ] [] (Bt true jZ (fun n=> .sa n) (.arr (some tI) 1 (.it .i64 (dw [] (bK (aJ ([]:List Sx.Obj))))))) (fun _ _=>False):=
 bV (inl:=(abE [80,27])) (ann:=(kb [(4000+48,1,lpV [0,1,5] (fun g=> [(6,.it .i64 g)]) 0 32 tI 1 (fun g=> .it .i64 (dw [] g)) (gE []) (bK (aJ ([]:List Sx.Obj))))])) (aH bE aO) aU (Rr) (by kernel_rfl)
theorem V7(L:List Sx.Obj)(hl:gr L):
 aw (aw (∀(r0:Loop),(∃g,gE L g/\aK L=aK L/\0=g/\L=L/\r0=r0/\[]=dw L g)/\∀(g:Int),gE L g->au (decide (g<aK L)) ((0<=g/\g< ↑(aJ L))/\g.toNat<aJ L/\g.toNat<aJ L/\r0=r0/\r0=r0/\aw (au (!decide ((aM L g.toNat free).kind=1)|| !decide (((aM L g.toNat free).slots.at 2).kind=1)||decide (((aM L g.toNat free).slots.at 2).value<0)||decide (2<((aM L g.toNat free).slots.at 2).value)) (r0=r0/\az (g+1)/\∃g',gE L g'/\(bK (aJ L)-g').toNat<(bK (aJ L)-g).toNat/\aK L=aK L/\g+1=g'/\L=L/\r0=r0/\dw L g=dw L g') (au (decide (((aM L g.toNat free).slots.at 2).value=1)) (jU (aJ (dw L g)) 8/\r0=r0/\az (g+1)/\∃g',gE L g'/\(bK (aJ L)-g').toNat<(bK (aJ L)-g).toNat/\aK L=aK L/\g+1=g'/\L=L/\r0=r0/\cE (dw L g) g=dw L g') (r0=r0/\az (g+1)/\∃g',gE L g'/\(bK (aJ L)-g').toNat<(bK (aJ L)- g).toNat/\aK L=aK L/\g+1=g'/\L=L/\r0=r0/\dw L g=dw L g')))) (aw (∀(nid:Nat),some (V.sa nid)=some (V.sa nid)/\some [aQ.arr (some tI) 1 (TL.it IntKind.i64 (dw L g))]=some [aQ.arr (some tI) 1 (TL.it IntKind.i64 (dw L (bK (aJ L))))])))):=by
 delta au az aw
 simp only[xt];simp only[qZ,oM,qw,mG,decide_true,Bool.and_true,Bool.not_true,Bool.or_false,Bool.not_false,Bool.false_eq_true,Bool.true_eq_false,false_implies,implies_true,true_implies,true_and,and_true,and_self];refine fun _=>⟨⟨0,⟨by omega,by omega⟩,rfl,(u9 L).symm⟩,fun g hg=>⟨fun h=>?_,fun h=>?_⟩⟩
 ·have h1:g<(L.length:Int):=ak h;obtain⟨s1,s2,s3⟩:=C8 hl hg h1;have e:=vv L hg.1;have hlL:aJ L=L.length:=rfl;have hg0:=hg.1;have hget:aS L g=aM L g.toNat free:=fH hg.1 h1;refine⟨⟨by omega,by omega⟩,by omega,by omega,fun h2=>⟨s1,g+1,s2,s3,rfl,?_⟩,fun h2=>⟨fun h3=>⟨Dc hl h1,s1,g+1,s2,s3,rfl,?_⟩,fun h3=>⟨s1,g+1,s2,s3,rfl,?_⟩⟩⟩
  ·have hb:dM L g=false:=by unfold dM;rw[hget];simpa using h2
   rw[e,aq (by rw[(s5 hb).1];omega)]
  ·have hb:dM L g=true:=by unfold dM;rw[hget];simpa using h2
   rw[e,ar (by rw[(lI hb).1,hget];exact ak h3)]
  ·have hb:dM L g=true:=by unfold dM;rw[hget];simpa using h2
   rw[e,aq (by rw[(lI hb).1,hget];exact aj h3)]
 ·have h1:¬g<(L.length:Int):=aj h;have:g=bK (aJ L):=by have:=hg.2;unfold bK aJ at *;omega
  rw[this];exact fun _=>rfl
theorem Xc[Fen](L:List Sx.Obj)(hl:gr L):aL Tryz.prog 61 [.lp 0 0] [.ro (.store tS eS L)] (Bt true jZ (fun n=> .sa n) (.arr (some tI) 1 (.it .i64 (dw L (bK (aJ L)))))) (fun _ _=>False):=
 bV (inl:=(abE [80,27])) (ann:=(kb [(4000+48,1,lpV [0,1,5] (fun g=> [(6,.it .i64 g)]) 1 32 tI 1 (fun g=> .it .i64 (dw L g)) (gE L) (bK (aJ L)))])) (aH bE aO) aU (V7 L hl) (by kernel_rfl)
theorem WN[Fen]:k7 Tryz.prog 61 Zu:=
 yZ (aZ sH dg) (fun _=>rfl) (fun _=>by simp) fun a hq hok=>by
  obtain⟨S,_⟩:=a;cases S with
  |none=>exact R2
  |some L=>exact Xc L hq
end Go.Proofs.YtmfbohanboiklaaGreat
namespace Go.Sx
def oa:Nat:=174
def pq(k:Key)(r:Int):Key:=if k.kind=2 then dc k (iZ k.rights r)else if k.kind=3 then dc k (iZ k.rights (r.tmod 2))else k
def w8(k:Key)(r:Int):Prop:=bc k=true/\0<=r/\r<=7
def U9:Ct:=EU (bM kA (bM iA jx)) (fun x=>some (w8 x.1 x.2.1)) fun x=> .tp [.key (pq x.1 x.2.1),.ci .i64 0]
def pF(a b:Key):Bool:=bc a&&bc b&&(decide (a.kind=0)||ER a b||(decide (a.kind=2)||decide (a.kind=3))&&decide (a.kind=b.kind)&&decide (a.oid=b.oid)&&decide (a.count=b.count)&&decide (iZ a.rights b.rights=a.rights))
def Xb:Ct:=Vu rK rK fun a b=> .bo (pF a b)
theorem Gc{a:Int}(h:0<=a/\a<=7):∃x:Fin 8,a=(x.val:Int):=⟨⟨a.toNat,by omega⟩,by simp;omega⟩
theorem KI{a r:Int}(h:0<=a/\a<=7)(h':0<=r/\r<=7):bw .or .i64 a (bw .and .i64 r 7)=iZ a r:=by
 have key:∀x y:Fin 8,bw .or .i64 (x.val:Int) (bw .and .i64 (y.val:Int) 7)=iZ (x.val:Int) (y.val:Int):=by decide+kernel
 obtain⟨x,rfl⟩:=Gc h;obtain⟨y,rfl⟩:=Gc h';exact key x y
theorem Mv{a r:Int}(h:0<=a/\a<=1)(h':0<=r/\r<=7):bw .or .i64 a (bw .and .i64 r 1)=iZ a (r.tmod 2):=by
 have key:∀x y:Fin 8,x.val<=1->bw .or .i64 (x.val:Int) (bw .and .i64 (y.val:Int) 1)=iZ (x.val:Int) ((y.val:Int).tmod 2):=by decide+kernel
 obtain⟨x,rfl⟩:=Gc (a:=a) (by omega)
 obtain⟨y,rfl⟩:=Gc h';exact key x y (by omega)
theorem PQ{r:Int}(h':0<=r/\r<=7):bw .or .i64 0 (bw .and .i64 r 0)=0:=by
 have key:∀y:Fin 8,bw .or .i64 0 (bw .and .i64 (y.val:Int) 0)=0:=by decide+kernel
 obtain⟨y,rfl⟩:=Gc h';exact key y
theorem Ah{a b:Int}(h:0<=a/\a<=7)(h':0<=b/\b<=7):decide (bw .andNot .i64 b a=0)=decide (iZ a b=a):=by
 have key:∀x y:Fin 8,decide (bw .andNot .i64 (y.val:Int) (x.val:Int)=0)=decide (iZ (x.val:Int) (y.val:Int)=(x.val:Int)):=by decide+kernel
 obtain⟨x,rfl⟩:=Gc h;obtain⟨y,rfl⟩:=Gc h';exact key x y
def gk(k:Key):bP:=⟨0,⟨#[]⟩,k,void,void⟩
def gJ(n:Int):bP:=⟨0,⟨#[]⟩,void,void,dV n⟩
def iX(s:ByteArray):bP:=⟨0,s,void,void,void⟩
def gf(e:Int):bP:=⟨e,⟨#[]⟩,void,void,void⟩
def fR(k:Key):Key:=⟨2,k.oid,k.count,0,0,0⟩
def bH(m:bP):Int:=if 0<=m.k2.value/\m.k2.value<=2147483647 then m.k2.value else -1
def fS(b:Bool):Int:=if b then 1 else 0
def wc(n:Int):Int:=imax 0 (lN 32 (64-n))
abbrev UL:=Int×bP×List Obj
def jv(L:List Obj)(k:Key)(m:bP):UL:=
 if m.code=1 then(dC L k (bH m),gk (bd L k (bH m)),L)
 else if m.code=2 then(b8 L k (bH m) m.k0,gk (fl L k (bH m) m.k0),eJ L k (bH m) m.k0)
 else if m.code=3 then(br L k 2 true,eV,gV L k)
 else if m.code=4 then(dh L k m.k0,eV,gu L k m.k0)
 else if m.code=5 then(if 0<=m.k2.value/\m.k2.value<=7 then 0 else 2,gk (pq k m.k2.value),L)
 else(if k.rights=0 then 0 else 191,gk ⟨5,k.oid,k.count,0,0,0⟩,L)
def iY(L:List Obj)(k:Key)(m:bP):UL:=
 if m.code=1 then(cX L k (bH m) (wc (bH m)),iX (eP L k (bH m) (wc (bH m))),L)
 else if m.code=2 then(dS L k (bH m) m.data,eV,fY L k (bH m) m.data)
 else if m.code=3 then(b6 L k true,eV,gF L k)
 else if m.code=4 then(dR L k m.k0,eV,gO L k m.k0)
 else(if 0<=m.k2.value/\m.k2.value<=7 then 0 else 2,gk (pq k m.k2.value),L)
def jt(L:List Obj)(k:Key)(m:bP):UL:=
 if m.code=1 then(ef L k 1,gk (fm L k 1),gA L k 1)
 else if m.code=2 then(ef L k 2,gk (fm L k 2),gA L k 2)
 else if m.code=3 then(eG L k m.k0,eV,jO L k m.k0)
 else if m.code=4 then(cU L k (bH m),gk (cY L k (bH m)),bR L k (bH m))
 else if m.code=5 then(bB L k,gJ (fS (np L k m.k0)),L)
 else(bB L k,gJ (ju L k),kD L k)
def fJ(L:List Obj)(k:Key):Key:=bd L (fR k) 0
def gU(L:List Obj)(k:Key)(m:bP):UL:=
 if m.code=1 then(if bH m<0\/11<bH m then 4 else dC L (fR k) (bH m+4),gk (bd L (fR k) (bH m+4)),L)
 else if m.code=2 then(if bH m<0\/11<bH m then 4 else b8 L (fR k) (bH m+4) m.k0,gk (fl L (fR k) (bH m+4) m.k0),if bH m<0\/11<bH m then L else eJ L (fR k) (bH m+4) m.k0)
 else if m.code=3 then(0,gk ⟨6,k.oid,k.count,0,0,m.k2.value⟩,L)
 else if m.code=4 then(0,gJ (cH L k.oid),L)
 else if m.code=5 then(fx L k.oid (bH m),eV,jq L k.oid (bH m))
 else if m.code=6 then(if dz L (fJ L k) m.k2.value 32=0 then(if dn L (fJ L k) m.k2.value 32 false=0 then 0 else 1000+dn L (fJ L k) m.k2.value 32 false)else dz L (fJ L k) m.k2.value 32,iX (nE L (fJ L k) m.k2.value 32),L)
 else(if dz L (fJ L k) m.k2.value (du m.data)=0 then(if dn L (fJ L k) m.k2.value (du m.data) true=0 then 0 else 1000+dn L (fJ L k) m.k2.value (du m.data) true)else dz L (fJ L k) m.k2.value (du m.data),eV,oT L (fJ L k) m.k2.value m.data)
def dP(kind:Int):Int:=if kind=1 then 1 else if kind=2 then 6 else if kind=3 then 5 else if kind=4 then 6 else if kind=5 then 7 else if kind=8 then 3 else if kind=9\/kind=10 then 1 else 0
def er(kind c:Int):Bool:=
 if kind=2\/kind=3 then decide (c=1)||decide (c=2)||decide (c=5)else if kind=4 then decide (c=4)
 else if kind=5 then decide (1<=c/\c<=3)||decide (5<=c/\c<=7)else false
def fh(L:List Obj)(now:Int)(k:Key)(m:bP):UL:=
 if k.kind=1 then(0,gJ k.value,L)
 else if k.kind=2 then jv L k m
 else if k.kind=3 then iY L k m
 else if k.kind=4 then jt L k m
 else if k.kind=5 then gU L k m
 else if k.kind=8 then(0,if m.code=1 then gJ m.k0.kind else if m.code=2 then gJ (fS (pF m.k0 m.k1))else gJ m.k0.rights,L)
 else if k.kind=9 then(0,gJ now,L)
 else(0,eV,L)
def ee(L:List Obj)(now:Int)(k:Key)(m:bP):UL:=
 if k.kind=0 then(190,eV,L)
 else if m.code=0 then(0,gJ k.kind,L)
 else if m.code<1\/dP k.kind<m.code\/(er k.kind m.code=true/\m.k2.kind≠1)then(240,eV,L)
 else fh L now k m
def dZ(L:List Obj)(now:Int)(k:Key)(m:bP):bP:=if(ee L now k m).1=0 then(ee L now k m).2.1 else gf (ee L now k m).1
def ey(L:List Obj)(now:Int)(k:Key)(m:bP):List Obj:=(ee L now k m).2.2
def aY(L:List Obj)(now:Int)(k:Key)(m:bP):bP×List Obj:=(dZ L now k m,ey L now k m)
def kk(c:Int)(k:Key):Key:=⟨c,k.oid,k.count,k.call,k.rights,k.value⟩
def mm(c:Int)(m:bP):bP:=⟨c,m.data,m.k0,m.k1,m.k2⟩
def eB:ByteArray:=⟨#[]⟩
def hU(c:V)(m:bP)(n:Int)(kd:V)(k:Key):V:= .ag [.ag [c,.st m.data,.ag [.key m.k0,.key m.k1,.key m.k2]],.lp 1 0,.it .i64 n,.ag [kd,.it .i64 k.oid,.it .i64 k.count,.it .i64 k.call,.it .i64 k.rights,.it .i64 k.value]]
def kO(A:bP×List Obj)(v:V)(r:List aQ):Prop:=
 match zs v with
 |some x=>match aN r 1 with
  | .store t e M=>if t==tS&&e==eS then(x,M)=A else False
  |_=>False
 |none=>False
theorem Vh{A:bP×List Obj}{v:V}{r:List aQ}(h:kO A v r):uZ (sS A.1) v r/\aN r 1= .store tS eS A.2:=by
 unfold kO at h;split at h
 case h_2=>exact h.elim
 rename_i x hx;split at h
 case h_2=>exact h.elim
 rename_i hr;split at h
 case isFalse=>exact h.elim
 rename_i hc;simp only[af,ai]at hc;obtain⟨rfl,rfl⟩:=hc;subst h;obtain⟨a,b⟩:=Cb v x hx;have ht:cz v=false:=by cases v<;>first|rfl|simp[zs]at hx
 exact⟨fun J K=>⟨a J,fun h=>fu (b K h),ht⟩,hr⟩
def uW(r:UL):bP×List Obj:=(if r.1=0 then r.2.1 else gf r.1,r.2.2)
theorem H2{L:List Obj}{n:Int}{k:Key}{m:bP}{c:Int}(hc:1<=c/\c<=7):aY L n (kk 5 k) (mm c m)=if er 5 c=true/\m.k2.kind≠1 then(gf 240,L)else uW (gU L (kk 5 k) (mm c m)):=by
 have h0:¬c=0:=by omega
 have h1:¬(c<1\/dP 5<c):=by have:dP 5=7:=by decide
                            omega
 have e1:(kk 5 k).kind=5:=rfl;have e2:(mm c m).code=c:=rfl;have e3:(mm c m).k2=m.k2:=rfl;have hb:fh L n (kk 5 k) (mm c m)=gU L (kk 5 k) (mm c m):=by unfold fh;rw[e1];rfl
 have hr:ee L n (kk 5 k) (mm c m)=if er 5 c=true/\m.k2.kind≠1 then(240,eV,L)else gU L (kk 5 k) (mm c m):=by
  unfold ee;rw[e1,e2,e3,aq (by omega),aq h0,hb]
  by_cases h:er 5 c=true/\m.k2.kind≠1
  ·rw[ar (.inr (.inr h)),ar h]
  ·rw[aq (fun hh=>by rcases hh with hh|hh|hh;exact h1 (.inl hh);exact h1 (.inr hh);exact h hh),aq h]
 unfold aY dZ ey;rw[hr];by_cases h:er 5 c=true/\m.k2.kind≠1
 ·simp only[ar h];rfl
 ·simp only[aq h];rfl
theorem O5{L:List Obj}:∀(n:Nat) (w:Wk),0<=(Qi L n w).kd/\(Qi L n w).kd<=4
 |0,w=>by simp[Qi]
 |n+1,w=>by
  unfold Qi;split
  ·split<;>simp
  ·split
   ·split
    ·rename_i r heq;unfold lJ at heq;split at heq
     ·simp at heq;rw[<-heq];simp
     ·split at heq
      ·split at heq
       ·simp at heq
       ·simp at heq;rw[<-heq];simp
      ·simp at heq;rw[<-heq];simp
    ·exact O5 n _
   ·simp
theorem UT{L:List Obj}{k:Key}{a n:Int}{w:Bool}:0<=dn L k a n w/\dn L k a n w<=6:=by
 have h:0<=(aT L k a).kd/\(aT L k a).kd<=4:=by
  unfold aT;split
  ·exact O5 _ _
  ·simp[YU]
 unfold dn;grind
def Ba(L:List Obj)(n:Int)(k:Key)(m:bP):Bool:=decide (0<=n)&&jj L m&&cJ L k
def jL(L:List Obj)(n:Int)(k:Key)(m:bP):Int:=
 if aJ L=0 then 1 else if Ba L n k m=false then 2 else if(aI L k).kind=6\/(aI L k).kind=7 then 241 else 0
def ca(L:List Obj)(n:Int)(k:Key)(m:bP):bP:=if jL L n k m=0 then dZ L n (aI L k) (nu L m)else eV
def jz(L:List Obj)(n:Int)(k:Key)(m:bP):Bool:=decide (jL L n k m=0)&&decide ((aI L k).kind=10)&&decide (m.code=1)
def nM(L:List Obj)(n:Int)(k:Key)(m:bP):List Obj:=if jL L n k m=0 then ey L n (aI L k) (nu L m)else L
def LI:Ct:=EU (bM sA (bM kA jx)) (fun _=>none) fun x=> .bo (cJ (ye x.1) x.2.1)
def Vy:ky (Int×Key×bP×Unit):=bM iA (bM kA (bM mA jx))
theorem RB:iF Vy:=aZ fk (aZ mT (aZ N6 dg))
def aaE:kr:=X0 (IP Vy) (fun x=>aR x.2.2.1.data) (fun L x=>aP L/\aR x.2.2.1.data) (fun L x=> .tp [sS (ca L x.1 x.2.1 x.2.2.1),.bo (jz L x.1 x.2.1 x.2.2.1),.it .i64 (jL L x.1 x.2.1 x.2.2.1)]) fun L x=>nM L x.1 x.2.1 x.2.2.1
def UI(L:List Obj)(k:Key)(m:bP):Prop:=aP L/\aR m.data/\bc k=true
def Um:kr:=fun args res K=>
 match args with
 | [a]=>match a with
   | .lp j off=>if off==0 then match aN res j with
     | .blk t c=>if t==oa then match c with
       | .ag cl=>match cl with
         | [mv,sv,nv,kv]=>match zs mv with
           |some m=>match sv with
            | .lp i o2=>if o2==0&& !(i==j)then match rI .i64 nv with
              |some n=>match rK kv with
               |some k=>match aN res i with
                | .store t2 e L=>if t2==tS&&e==eS then UI L k m/\K (sS (dZ L n k m)) (bQ res i (.store tS eS (ey L n k m)))else False
                |_=>False
               |none=>False
              |none=>False
              else False
            |_=>False
           |none=>False
         |_=>False
       |_=>False
       else False
     |_=>False
     else False
   |_=>False
 |_=>False
theorem Gs{L:List Obj}{k:Key}:bc (aI L k)=true:=by
 unfold aI;split
 ·rfl
 ·rename_i h;simp only[Bool.or_eq_true,not_or,Bool.not_eq_true',Bool.not_eq_false]at h;exact h.1.2
theorem qQ{k:IntKind}{v:V}{n:Int}(h:rI k v=some n):jN v=true:=by
 cases v<;>first|rfl|simp[rI,toInt]at h
theorem Nf{v:V}{s:ByteArray}(h:EH v=some s):jN v=true:=by
 cases v<;>first|rfl|simp[EH]at h
theorem BP{v:V}{k:Key}(h:rK v=some k):jN v=true:=by
 unfold rK at h;split at h
 ·rfl
 ·split at h
  case h_2=>simp at h
  repeat' (split at h<;>try(simp at h;done))
  rename_i h1 _ _ h2 _ _ h3 _ _ h4 _ _ h5 _ _ h6;simp[jN,lr,qQ h1,qQ h2,qQ h3,qQ h4,qQ h5,qQ h6]
 ·simp at h
theorem KS{v:V}{m:bP}(h:zs v=some m):jN v=true:=by
 unfold zs at h;split at h
 case h_2=>simp at h
 split at h
 case h_2=>simp at h
 split at h
 case h_2=>simp at h
 rename_i hn;split at h
 case h_2=>simp at h
 rename_i hs;split at h
 case h_2=>simp at h
 split at h
 case h_2=>simp at h
 split at h
 case h_2=>simp at h
 rename_i hk;split at h
 case h_2=>simp at h
 rename_i hk';split at h<;>simp only[aa,reduceCtorEq]at h
 rename_i hk'';simp[jN,lr,qQ hn,Nf hs,BP hk,BP hk',BP hk'']
theorem D2[Fen]{P:Program}{f:Nat}{K KP:V->List aQ->Prop}{t:Nat}{c c':V}{r:aQ}(hr:r≠ .yet)(hc:∀J,cells J c=cells J c')(hc':∀K,ok K c->ok K c')(hct:cz c'=false)
  (h:aL P f [.lp 0 0] [.ro (.blk t c'),r] K KP):aL P f [.lp 0 0] [.ro (.blk t c),r] K KP:=by
 have hk:∀i (x:V),known [.ro (.blk t x),r] i↔i=0\/i=1:=fun i x=>by
  unfold known;rcases i with _|_|i<;>simp[aN,hr]
 have hkk:∀i (x y:V),known [.ro (.blk t x),r] i->known [.ro (.blk t y),r] i:=fun i x y h=>(hk i y).2 ((hk i x).1 h)
 refine h.tE fun J fps w0 F0 w hH=>⟨J,fps,hH.weaken fun i hi=>⟨hkk i _ _ hi,fun fp hh=>?_⟩,Env.agree.refl _ _,fun i hi=>hkk i _ _ hi⟩
 rcases(hk i _).1 hi with rfl|rfl
 ·obtain⟨fp',⟨h1,h2,h3,h4⟩,h5⟩:=hh;exact⟨fp',⟨hc' _ (cZ (fun i hi=>hkk i _ _ hi) _ h1),hct,h3,by rw[<-hc];exact h4⟩,h5⟩
 ·exact aQ.nH _ hh fun i hi=>hkk i _ _ hi
theorem xF[Fen]{P:Program}{f:Nat}{K KP:V->List aQ->Prop}{c c' d d':V}{m:bP}{n:Int}{k:Key}{r:aQ}(hr:r≠ .yet)(hc:∀J,den J c=den J c')(hc':∀K,ok K c->ok K c')(hct:cz c'=false)(hd:∀J,den J d=den J d')(hd':∀K,ok K d->ok K d')(hdt:cz d'=false)
  (h:aL P f [.lp 0 0] [.ro (.blk oa (hU c' m n d' k)),r] K KP):aL P f [.lp 0 0] [.ro (.blk oa (hU c m n d k)),r] K KP:=by
 refine D2 hr (fun J=>by simp only[cells,hU,den,bp,hc,hd]) (fun K h1=>?_) rfl h
 obtain⟨⟨⟨⟨x1,x2⟩,_⟩,y,z,⟨⟨u1,u2⟩,_⟩,_⟩,v⟩:=h1;exact⟨⟨⟨⟨hc' _ x1,x2⟩,by cases c'<;>first| (simp[qg];done)|simp[cz]at hct⟩,y,z,⟨⟨hd' _ u1,u2⟩,by cases d'<;>first| (simp[qg];done)|simp[cz]at hdt⟩,trivial⟩,by simp[qg]⟩
theorem MN[Fen]{P:Program}{f:Nat}{K KP:V->List aQ->Prop}{mv nv kv:V}{m:bP}{n:Int}{k:Key}{r:aQ}(hr:r≠ .yet)(hm:zs mv=some m)(hn:rI .i64 nv=some n)(hk:rK kv=some k)
  (h:aL P f [.lp 0 0] [.ro (.blk oa (hU (.it .i64 m.code) m n (.it .i64 k.kind) k)),r] K KP):aL P f [.lp 0 0] [.ro (.blk oa (.ag [mv,.lp 1 0,nv,kv])),r] K KP:=by
 obtain⟨m1,m2⟩:=Cb _ _ hm;obtain⟨n1,n2⟩:=gX .i64 _ _ hn;obtain⟨k1,k2⟩:=gI _ _ hk;refine D2 hr (fun J=>?_) (fun K h1=>?_) rfl h
 ·simp only[cells,hU,den,bp,m1 J,n1 J,k1 J,sS,Value.cells,c8,i64];simp
 ·obtain⟨⟨x,y,z,u,_⟩,_⟩:=h1;obtain⟨a1,a2,a3,a4,a5,a6⟩:=(k2 K u:k.wf);exact⟨⟨fu (m2 K x),y,n2 K z,⟨⟨a1,a2,a3,a4,a5,a6,trivial⟩,by simp[qg]⟩,trivial⟩,by simp[qg,sS]⟩
def oc(a b:Int)(k:Key)(m:bP):Bool:=decide (k.kind=a)&&decide (m.code=b)
theorem xw{c:Int}{k:Key}(h:k.kind=c):kk c k=k:=by subst h;rfl
theorem GI{c:Int}{m:bP}(h:m.code=c):mm c m=m:=by subst h;rfl
def odX(nid:Nat):V:= .mp nid
def G8(nid:Nat):List aQ:= [.mq [[1,1],[2,1],[2,2],[2,3],[2,4],[2,5],[2,6],[3,1],[3,2],[3,3],[3,4],[3,5],[4,1],[4,2],[4,3],[4,4],[4,5],[4,6],[5,1],[5,2],[5,3],[5,4],[5,5],[5,6],[5,7],[8,1],[8,2],[8,3],[9,1],[10,1]] [.fn 132 [],.fn 134 [],.fn 138 [],.fn 140 [],.fn 143 [],.fn 145 [],.fn 146 [],.fn 147 [],.fn 148 [],.fn 150 [],.fn 152 [],.fn 145 [],.fn 201 [.lp (nid+1) 0],.fn 201 [.lp (nid+1+1) 0],.fn 155 [],.fn 157 [],.fn 159 [],.fn 160 [],.fn 161 [],.fn 164 [],.fn 165 [],.fn 167 [],.fn 168 [],.fn 169 [],.fn 170 [],.fn 171 [],.fn 172 [],.fn 175 [],.fn 177 [],.fn 178 []],.blk 40 (.ci .i64 1),.blk 40 (.ci .i64 2)]
end Go.Sx
namespace Go.Proofs.YtmfbohanboiklaaGreat
open Go.Sx
theorem Me(k:Key)(r:Int)(hq:w8 k r):
 ((!bc k||decide (r<0)||decide (7<r))=true->False)/\((!bc k||decide (r<0)||decide (7<r))=false->Key.mk k.kind k.oid k.count k.call (bw BinOp.or IntKind.i64 k.rights
   (bw BinOp.and IntKind.i64 r (ea k.kind))) k.value=pq k r):=by
 obtain⟨hk,h0,h7⟩:=hq;have hr:=gL hk;refine⟨fun h=>?_,fun _=>?_⟩
 ·simp[hk]at h;omega
 obtain⟨kind,oid,count,call,rights,value⟩:=k;simp only at hr⊢;unfold pq dc;by_cases h2:kind=2
 ·subst h2;have:=KI (a:=rights) (r:=r) (by have:ea 2=7:=rfl;omega) ⟨h0,h7⟩
  simp only[if_true,show ea 2=7 from rfl,this]
 ·by_cases h3:kind=3
  ·subst h3;have:=Mv (a:=rights) (r:=r) (by have:ea 3=1:=rfl;omega) ⟨h0,h7⟩
   simp only[show¬(3:Int)=2 by omega,if_false,if_true,show ea 3=1 from rfl,this]
  ·have hm:ea kind=0:=by unfold ea;simp[h2,h3]
   have hz:rights=0:=by omega
   subst hz;simp only[h2,h3,if_false,hm,PQ ⟨h0,h7⟩]
theorem DF[Fen]:dq Tryz.prog 192 U9:=
 kf (aZ mT (aZ fk dg)) (fun _=>rfl) fun a hq hok=>by
  obtain⟨k,r,_⟩:=a;exact bG (inl:=cg) (ann:=bj) (aH zh aO) (Me k r hq) (by kernel_rfl)
theorem SC(a b:Key)(ha:a.wf)(hb:b.wf):
 au (!bc a|| !bc b) (false=pF a b) (au (decide (a.kind=0)||ER a b) (true=pF a b) ((nK a.kind&&decide (a.kind=b.kind)&&decide (a.oid=b.oid)&&decide (a.count=b.count)&&decide (bw BinOp.andNot IntKind.i64 b.rights a.rights=0))=pF a b)):=by
 delta au
 unfold pF;cases ha1:bc a
 ·simp
 cases hb1:bc b
 ·simp
 have hra:=gL ha1;have hrb:=gL hb1;refine⟨fun h=>by simp at h,fun _=>⟨fun h=>by simp only[h,Bool.true_and,Bool.true_or],fun h=>?_⟩⟩
 rw[h];simp only[Bool.true_and,Bool.false_or];by_cases hk:a.kind=b.kind
 ·by_cases h2:a.kind=2
  ·have m1:ea a.kind=7:=by rw[h2];rfl
   have m2:ea b.kind=7:=by rw[<-hk,h2];rfl
   rw[Ah (by omega) (by omega)]
   simp[nK,h2]
  ·by_cases h3:a.kind=3
   ·have m1:ea a.kind=1:=by rw[h3];rfl
    have m2:ea b.kind=1:=by rw[<-hk,h3];rfl
    rw[Ah (by omega) (by omega)]
    simp[nK,h3]
   ·simp[nK,h2,h3]
 ·simp[hk]
theorem RI[Fen]:dq Tryz.prog 57 Xb:=
 s7 gI gI (fun _ _=>rfl) fun a b ha hb=>bG (inl:=cg) (ann:=bj) (aH zh aO) (SC a b ha hb) (by kernel_rfl)
end Go.Proofs.YtmfbohanboiklaaGreat
