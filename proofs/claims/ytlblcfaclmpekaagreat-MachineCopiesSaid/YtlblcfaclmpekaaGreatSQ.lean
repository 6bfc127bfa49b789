import Derived.Test.YtlblcfaclmpekaaGreatKS
import Derived.Test.YtlblcfaclmpekaaGreatSpP
set_option linter.unusedSimpArgs false
set_option linter.unusedVariables false
namespace Go.Sx
def vu (o:Obj):Bool:=decide (o.kind=1)&&decide ((o.slots.at 2).kind=1)&&decide (0<=(o.slots.at 2).value)&&decide ((o.slots.at 2).value<=2)
def de (L:List Obj) (i:Int):Bool:=vu (aD L i)
def gz (L:List Obj) (i:Int):Int:=if de L i=true then((aD L i).slots.at 2).value else 0
def bW (L:List Obj) (i:Int):Int:=if de L i=true then((aD L i).slots.at 2).value else -1
def iQ:lH (Int×Unit):=bI iA kK
theorem Su:iC iQ:=aQ fP dU
def SE:Ct:=Ci (bI sA iQ) (fun _=>none) fun x=> .tp [.it .i64 (gz (An x.1) x.2.1),.bo (de (An x.1) x.2.1)]
theorem Qa {L:List Obj} {i:Int} (h:i<0\/(L.length:Int)<=i):aD L i=free:=by
 unfold aD;rw[VQ fun e=>by have:=mZ.1 e;omega]
theorem v7 (o:Obj):vu o=true↔o.kind=1/\(o.slots.at 2).kind=1/\0<=(o.slots.at 2).value/\(o.slots.at 2).value<=2:=by
 unfold vu;simp only[VK,VL,and_assoc]
theorem wg {L:List Obj} {i:Int} (h:de L i=false):bW L i= -1/\gz L i=0:=by
 unfold bW gz;rw[h];exact⟨rfl,rfl⟩
theorem lg {L:List Obj} {i:Int} (h:de L i=true):bW L i=((aD L i).slots.at 2).value/\gz L i=((aD L i).slots.at 2).value:=by
 unfold bW gz;rw[h];exact⟨rfl,rfl⟩
theorem zP (o:Obj):(!decide (o.kind=1)|| !decide ((o.slots.at 2).kind=1)||decide ((o.slots.at 2).value<0)||decide (2<(o.slots.at 2).value))= !vu o:=by
 have h:=v7 o;cases hp:vu o with
 |true=>
  obtain⟨a,b,c,d⟩:=h.1 hp;have c':¬(o.slots.at 2).value<0:=by omega
  have d':¬2<(o.slots.at 2).value:=by omega
  simp[a,b,c',d']
 |false=>
  rw[Bool.not_false,Bool.or_eq_true,Bool.or_eq_true,Bool.or_eq_true,Bool.not_eq_true',Bool.not_eq_true',decide_eq_false_iff_not,decide_eq_false_iff_not,VL,VL];rw[hp]at h;have hn:¬(o.kind=1/\(o.slots.at 2).kind=1/\0<=(o.slots.at 2).value/\(o.slots.at 2).value<=2):=fun hh=>by have:=h.2 hh;simp at this
  omega
def ey (L:List Obj) (i st:Int):Int:=if an L=0 then 1 else if¬(aD L i).kind=1 then 230 else if st<0\/2<st then 2 else 0
def Bh (o:Obj) (st:Int):Obj:= {o with slots:=o.slots.put 2 (c8 st)}
def ie (L:List Obj) (i st:Int):List Obj:=if ey L i st=0 then dh L i.toNat (Bh (aD L i) st)else L
def US:lH (Int×Int×Unit):=bI iA (bI iA kK)
theorem Ps:iC US:=aQ fP (aQ fP dU)
def S9:nz:=Gs (GP US) (fun L _=>aw L) (fun L x=> .it .i64 (ey L x.1 x.2.1)) fun L x=>ie L x.1 x.2.1
end Go.Sx
namespace Go.Sx
structure bk where
 code:Int
 data:ByteArray
 k0:Key
 k1:Key
 k2:Key
def rp (m:bk):V:= .ag [.it .i64 m.code,.st m.data,.ag [.key m.k0,.key m.k1,.key m.k2]]
def ee:bk:=⟨0,⟨#[]⟩,void,void,void⟩
def xw (v:V):Option bk:=
 match v with
 | .ag l=>match l with
   | [a,b,c]=>match rI .i64 a with
     |some n=>match BL b with
      |some s=>match c with
       | .ag l'=>match l' with
         | [x,y,z]=>match rK x with
           |some k=>match rK y with
            |some k'=>match rK z with
             |some k''=>some ⟨n,s,k,k',k''⟩
             |none=>none
            |none=>none
           |none=>none
         |_=>none
       |_=>none
      |none=>none
     |none=>none
   |_=>none
 |_=>none
theorem zG:ra xw rp:=by
 intro v x h;unfold xw at h;split at h
 case h_2=>simp at h
 split at h
 case h_2=>simp at h
 rename_i a b c;split at h
 case h_2=>simp at h
 rename_i n hn;split at h
 case h_2=>simp at h
 rename_i s hs;split at h
 case h_2=>simp at h
 split at h
 case h_2=>simp at h
 rename_i p q r;split at h
 case h_2=>simp at h
 rename_i k hk;split at h
 case h_2=>simp at h
 rename_i k' hk';split at h<;>simp only[VI,reduceCtorEq]at h
 rename_i k'' hk'';subst h;refine⟨fun J=>?_,fun K hK=>?_⟩
 ·simp only[den,rp,aZ,(gJ .i64 _ _ hn).1 J,(u7 _ _ hs).1 J,(iw _ _ hk).1 J,(iw _ _ hk').1 J,(iw _ _ hk'').1 J]
 ·obtain⟨h1,h2⟩:=hK;obtain⟨g1,g2⟩:=h1.2.2.1;exact⟨⟨(gJ .i64 _ _ hn).2 K h1.1,(u7 _ _ hs).2 K h1.2.1,⟨⟨(iw _ _ hk).2 K g1.1,(iw _ _ hk').2 K g1.2.1,(iw _ _ hk'').2 K g1.2.2.1,trivial⟩,by simp[qB]⟩,trivial⟩,by simp[qB]⟩
def mA:Arg bk:=AJ xw rp
theorem IW:lY mA:=qp zG (fun _=>rfl) fun v x h=>by cases v<;>simp[xw]at h;rfl
def g8 (L:List Obj) (m:bk):Bool:=decide (cC m.data<=32)&&bQ L m.k0&&bQ L m.k1&&bQ L m.k2
def lS (L:List Obj) (m:bk):bk:=⟨m.code,m.data,ah L m.k0,ah L m.k1,ah L m.k2⟩
def Ei (s:bV) (m:bk) (a:Key):bV:=(((((s.put 2 (c8 1)).put 3 (c8 m.code)).put 12 m.k0).put 13 m.k1).put 14 m.k2).put 15 a
def J5 (s:ByteArray) (g:Int):Bytes:=uP (ev.put 0 (UInt8.ofNat s.size)) 1 g.toNat s
def vW (o:Obj) (m:bk) (a:Key):Obj:=⟨o.kind,o.count,o.calls,Ei o.slots m a,J5 m.data (cC m.data)⟩
def DZ (L:List Obj) (i:Int) (m:bk) (a:Key):List Obj:=dh L i.toNat (vW (aq L i.toNat free) m a)
def cE (L:List Obj) (i:Int) (k:Key) (md:Int) (m:bk):Int:=
 if an L=0 then 1 else if¬(1<=md/\md<=3)\/bQ L k=false\/g8 L m=false then 2 else if bW L i≠1 then 230
 else if aT L k=false\/¬(k.kind=6\/k.kind=7)\/bW L k.oid<0 then 231
 else if(k.kind=6/\bW L k.oid≠0/\¬(md=3/\k.oid=i))\/(k.kind=7/\bW L k.oid≠2)then 232
 else if(k.kind=7/\4294967295<=(aq L k.oid.toNat free).calls)\/(md=1/\4294967295<=(aq L i.toNat free).calls)then 233 else 0
def jX (L:List Obj) (i md:Int):Key:=if md=1 then⟨7,i,(aq L i.toNat free).count,(aq L i.toNat free).calls,0,0⟩else void
def iy (md:Int):Int:=if md=1 then 2 else if md=2 then 1 else 0
def ER (L:List Obj) (i:Int) (k:Key) (md:Int) (m:bk):Prop:=
 an L≠0/\(1<=md/\md<=3)/\bQ L k=true/\g8 L m=true/\bW L i=1/\aT L k=true/\(k.kind=6\/k.kind=7)/\0<=bW L k.oid/\
 ¬((k.kind=6/\bW L k.oid≠0/\¬(md=3/\k.oid=i))\/(k.kind=7/\bW L k.oid≠2))/\¬(k.kind=7/\4294967295<=(aq L k.oid.toNat free).calls)
def oN (L:List Obj) (i:Int) (k:Key) (md:Int) (m:bk):Prop:=cE L i k md m=0
def Pj (o:Obj):Obj:= {o with calls:=o.calls+1}
def gx (L:List Obj) (i md:Int):List Obj:=dh L i.toNat (Bh (aq L i.toNat free) (iy md))
def gX (L:List Obj) (i:Int) (k:Key) (md:Int):List Obj:=if k.kind=7 then dh (gx L i md) k.oid.toNat (Pj (aq (gx L i md) k.oid.toNat free))else gx L i md
def fo (L:List Obj) (i:Int) (k:Key) (md:Int) (m:bk):List Obj:=if cE L i k md m=0 then DZ (gX L i k md) k.oid (lS L m) (jX L i md)else L
def je (L:List Obj) (i:Int) (m:bk):Int:=if an L=0 then 1 else if g8 L m=false then 2 else if bW L i≠1 then 230 else 0
def j6 (L:List Obj) (i:Int) (m:bk):List Obj:=if je L i m=0 then DZ L i (lS L m) void else L
abbrev tM:Nat:=47
def UH:lH (Int×Key×Int×bk×Unit):=bI iA (bI kA (bI iA (bI mA kK)))
theorem Qj:iC UH:=aQ fP (aQ mC (aQ fP (aQ IW dU)))
def U6:lH (Int×bk×Unit):=bI iA (bI mA kK)
theorem QA:iC U6:=aQ fP (aQ IW dU)
def Sc:nz:=RM (GP UH) (fun x=>az x.2.2.2.1.data) (fun L x=>aw L/\az x.2.2.2.1.data) (fun L x=> .it .i64 (cE L x.1 x.2.1 x.2.2.1 x.2.2.2.1)) fun L x=>fo L x.1 x.2.1 x.2.2.1 x.2.2.2.1
def Sb:nz:=RM (GP U6) (fun x=>az x.2.1.data) (fun L x=>aw L/\az x.2.1.data) (fun L x=> .it .i64 (je L x.1 x.2.1)) fun L x=>j6 L x.1 x.2.1
def CY:Ct:=fun res _ xs=>match xs with
 | [a]=>match rS tS eS res a with
   |some (_,L)=>match L with
    | []=>some (none,.ci .i64 0,[])
    |_=>none
   |none=>none
 |_=>none
theorem LJ {P:Program} {f:Nat} (h:dD P f Dq):dD P f CY:=by
 intro J fps res K w0 F0 w nid args q x new hH hargs hg hq hfr;unfold CY at hg;split at hg
 case h_2=>simp at hg
 rename_i a;split at hg
 case h_2=>simp at hg
 rename_i o L hr;split at hg<;>simp only[VI,VJ,reduceCtorEq]at hg
 obtain⟨rfl,rfl,rfl⟩:=hg;obtain⟨h1,h2⟩:=h J fps res K w0 F0 w nid [a] none (.it .i64 (aj [])) [] hH hargs (by unfold Dq PW;simp only[hr]) trivial hfr
 refine⟨h1.mono ?_,h2⟩;rintro e w' ⟨v,he,ρ',g,hv,_⟩
 refine⟨v,he,ρ',g,hv,?_⟩;simp[ok,cj]
def Vz (nid:Nat):V:= .mp nid
def VD (nid:Nat):List aC:= [.mp .i64 [6,7] [.fn 126 [],.fn 127 []]]
def eG (L:List Obj) (g:Int):List Int:=((List.range g.toNat).filter fun(j:Nat)=>decide (bW L (j:Int)=1)).map Int.ofNat
def jm (L:List Obj) (g:Int):Prop:=0<=g/\g<=(an L:Int)
def ja (L:List Obj):Prop:=L.length<=1000
def S7:nz:=RN (bI sA kK) (fun x=>ja (An x.1)) (fun _=>true) (fun _=>gT) (fun _ n=> .sa n) fun x=> .arr (some tI) 1 (.it .i64 (eG (An x.1) (bU (an (An x.1)))))
end Go.Sx
set_option maxRecDepth 100000
namespace Go.Sx
theorem Li {L:List Obj} {i:Int} (h:(aD L i).kind=1):0<=i/\i<(L.length:Int)/\aD L i=aq L i.toNat free:=by
 by_cases hr:i<0\/(L.length:Int)<=i
 ·rw[Qa hr]at h;simp[free]at h
 ·exact⟨by omega,by omega,fK (by omega) (by omega)⟩
theorem qV {L:List Obj} {i:Int} (h:de L i=true):0<=i/\i<(L.length:Int)/\aD L i=aq L i.toNat free/\(aq L i.toNat free).kind=1:=by
 have hk:=((v7 _).1 h).1;obtain⟨a,b,c⟩:=Li hk;rw[c]at hk;exact⟨a,b,c,hk⟩
theorem rA {L:List Obj} {i:Int}:(0<=bW L i↔de L i=true)/\(bW L i<0↔de L i=false):=by
 cases h:de L i with
 |false=>rw[(wg h).1];simp
 |true=>
  have h2:=(lg h).1;have h3:=((v7 _).1 h).2.2.1;rw[<-h2]at h3;simp;exact h3
theorem ET {L:List Obj} {i:Int}:(de L i&&decide (gz L i=1))=decide (bW L i=1):=by
 cases h:de L i with
 |false=>rw[(wg h).1];simp
 |true=>rw[(lg h).1,(lg h).2];simp
theorem SM {L:List Obj} {i:Int} (h:de L i=true):gz L i=bW L i:=by rw[(lg h).1,(lg h).2]
theorem JY {o:Obj} {n st:Int} (h:bu o n=true) (hk:o.kind=1):bu (Bh o st) n=true:=by
 have hn:=(eo.1 h).1;exact wG h hk (M6 (by omega) (qs h hk) (qi (by omega) _))
theorem KN {o:Obj} {n:Int} (h:bu o n=true) (hk:o.kind=1) (hc:o.calls<4294967295):bu (Pj o) n=true:=by
 obtain⟨a1,a2,a3,a4,a5,a6,a7,a8,a9,a10,a11⟩:=eo.1 h;rw[eo];exact⟨a1,a2,a3,a4,a5,a6,by show 0<=o.calls+1;omega,by show o.calls+1<=4294967295;omega,.inl hk,a10,a11⟩
theorem Kw {o:Obj} {n:Int} {s:bV} {b:Bytes} (h:bu o n=true) (hk:o.kind=1) (hs:∀i,i<16->cz n (s.at i)):bu (jR (fB o s) b) n=true:=by
 have h':bu (fB o s) n=true:=wG h hk hs;have hk':(fB o s).kind=1:=hk;exact Ki h' (Or.inl hk')
theorem Cz {o:Obj} {n:Int} {m:bk} {a:Key} (h:bu o n=true) (hk:o.kind=1) (h0:cz n m.k0) (h1:cz n m.k1) (h2:cz n m.k2) (ha:cz n a):bu (vW o m a) n=true:=by
 have hn:=(eo.1 h).1
 have hs:∀i,i<16->cz n ((Ei o.slots m a).at i):=fun i hi=>by
  unfold Ei;rw[bV.eR _ _ _ _ (by omega),bV.eR _ _ _ _ (by omega),bV.eR _ _ _ _ (by omega),bV.eR _ _ _ _ (by omega),bV.eR _ _ _ _ (by omega),bV.eR _ _ _ _ (by omega)]
  split
  ·exact ha
  ·split
   ·exact h2
   ·split
    ·exact h1
    ·split
     ·exact h0
     ·split
      ·exact qi (by omega) _
      ·split
       ·exact qi (by omega) _
       ·exact qs h hk i hi
 have e:vW o m a=jR (fB o (Ei o.slots m a)) (J5 m.data (cC m.data)):=by unfold vW jR fB;rfl
 rw[e];exact Kw h hk hs
theorem xa {n:Int} (hn:0<=n):cz n void:=⟨lu.1,by rw[lu.2];omega⟩
theorem MN {n i c d:Int} (h0:0<=i) (h1:i<n) (h2:n<=64) (c0:0<=c) (c1:c<=4294967295) (d0:0<=d) (d1:d<=4294967295):cz n ⟨7,i,c,d,0,0⟩:=by
 have hk:aW ⟨7,i,c,d,0,0⟩=true:=by
  unfold aW qA gw oJ fa ef;simp;omega
 refine⟨hk,?_⟩;unfold cM;rw[hk];simp[gw];omega
theorem zH {L:List Obj} (hL:0<L.length) (m:bk):cz (L.length:Int) (lS L m).k0/\cz (L.length:Int) (lS L m).k1/\cz (L.length:Int) (lS L m).k2:=⟨ny hL _,ny hL _,ny hL _⟩
theorem HF {s:ByteArray} (h:cC s<=32):GM (ev.put 0 (Qw (cC s))) (Int.toNat 1) (Int.toNat 64) s=J5 s (cC s):=by
 have hz:(s.size:Int)<=32:=h;have e:Nat.min s.size (64-1)=s.size:=Nat.min_eq_left (by omega)
 show uP _ 1 (Nat.min s.size (64-1)) s=uP _ 1 (cC s).toNat s
 rw[e];rfl
theorem OR {L:List Obj} {i st:Int} (h:ey L i st=0):(0<=i/\i<(L.length:Int))/\aD L i=aq L i.toNat free/\(aq L i.toNat free).kind=1/\0<=st/\st<=2:=by
 unfold ey at h;split at h
 ·omega
 ·split at h
  ·omega
  ·split at h
   ·omega
   ·rename_i h1 h2 h3;have h2:(aD L i).kind=1:=by omega
    obtain⟨a,b,c⟩:=Li h2;exact⟨⟨a,b⟩,c,by rw[<-c];exact h2,by omega,by omega⟩
theorem Cm {L:List Obj} {i st:Int} (hL:aw L):aw (ie L i st):=by
 unfold ie;split
 ·rename_i h;obtain⟨⟨a,b⟩,c,d,_⟩:=OR h;rw[c];exact jk hL (JY (cG hL _ (by omega)) d)
 ·exact hL
theorem CG {L:List Obj} {i st e:Int} (h:ey L i st=e) (he:e≠0):e=ey L i st/\L=ie L i st:=⟨h.symm,by unfold ie;rw[h,VQ he]⟩
theorem Sv {L:List Obj} {i st:Int} (h:an L=0):ey L i st=1:=by unfold ey;rw[VR h]
theorem Nr {L:List Obj} {i st:Int} (h:an L≠0) (h2:¬(aD L i).kind=1):ey L i st=230:=by unfold ey;rw[VQ h,VR h2]
theorem Tp {L:List Obj} {i st:Int} (h:an L≠0) (h2:(aD L i).kind=1) (h3:st<0\/2<st):ey L i st=2:=by unfold ey;rw[VQ h,VQ (by omega),VR h3]
theorem O7 {L:List Obj} {i st:Int} (h:an L≠0) (h2:(aD L i).kind=1) (h3:¬(st<0\/2<st)):ey L i st=0:=by unfold ey;rw[VQ h,VQ (by omega),VQ h3]
theorem Jd {L:List Obj} {i st:Int} (hL:aw L) (h:ey L i st=0):eP L i (Bh (aD L i) st)=0/\bP L i (Bh (aD L i) st)=ie L i st:=by
 obtain⟨⟨a,b⟩,c,d,_⟩:=OR h;obtain⟨p1,p2⟩:=j8 a b (JY (st:=st) (cG hL _ (by omega)) d)
 rw[c,p1,p2];refine⟨rfl,?_⟩;unfold ie;rw[VR h,c]
theorem CZ {L:List Obj} {m:bk} (h:g8 L m=true):cC m.data<=32:=by
 unfold g8 at h;simp only[VK,VL]at h;exact h.1.1.1
section
variable {L:List Obj} {i:Int} {k:Key} {md:Int} {m:bk}
theorem SH (a:an L=0):cE L i k md m=1:=by unfold cE;rw[VR a]
theorem Dm (a:an L≠0) (b:¬(1<=md/\md<=3)\/bQ L k=false\/g8 L m=false):cE L i k md m=2:=by unfold cE;rw[VQ a,VR b]
theorem JW (a:an L≠0) (b:¬(¬(1<=md/\md<=3)\/bQ L k=false\/g8 L m=false)) (c:bW L i≠1):cE L i k md m=230:=by unfold cE;rw[VQ a,VQ b,VR c]
theorem Dc (a:an L≠0) (b:¬(¬(1<=md/\md<=3)\/bQ L k=false\/g8 L m=false)) (c:bW L i=1) (d:aT L k=false\/¬(k.kind=6\/k.kind=7)\/bW L k.oid<0):cE L i k md m=231:=by
 unfold cE;rw[VQ a,VQ b,VQ (by omega),VR d]
theorem Dk (a:an L≠0) (b:¬(¬(1<=md/\md<=3)\/bQ L k=false\/g8 L m=false)) (c:bW L i=1) (d:¬(aT L k=false\/¬(k.kind=6\/k.kind=7)\/bW L k.oid<0))
  (e:(k.kind=6/\bW L k.oid≠0/\¬(md=3/\k.oid=i))\/(k.kind=7/\bW L k.oid≠2)):cE L i k md m=232:=by
 unfold cE;rw[VQ a,VQ b,VQ (by omega),VQ d,VR e]
theorem Di (a:an L≠0) (b:¬(¬(1<=md/\md<=3)\/bQ L k=false\/g8 L m=false)) (c:bW L i=1) (d:¬(aT L k=false\/¬(k.kind=6\/k.kind=7)\/bW L k.oid<0))
  (e:¬((k.kind=6/\bW L k.oid≠0/\¬(md=3/\k.oid=i))\/(k.kind=7/\bW L k.oid≠2))) (f:(k.kind=7/\4294967295<=(aq L k.oid.toNat free).calls)\/(md=1/\4294967295<=(aq L i.toNat free).calls)):cE L i k md m=233:=by
 unfold cE;rw[VQ a,VQ b,VQ (by omega),VQ d,VQ e,VR f]
theorem UA (a:an L≠0) (b:¬(¬(1<=md/\md<=3)\/bQ L k=false\/g8 L m=false)) (c:bW L i=1) (d:¬(aT L k=false\/¬(k.kind=6\/k.kind=7)\/bW L k.oid<0))
  (e:¬((k.kind=6/\bW L k.oid≠0/\¬(md=3/\k.oid=i))\/(k.kind=7/\bW L k.oid≠2))) (f:¬((k.kind=7/\4294967295<=(aq L k.oid.toNat free).calls)\/(md=1/\4294967295<=(aq L i.toNat free).calls))):cE L i k md m=0:=by
 unfold cE;rw[VQ a,VQ b,VQ (by omega),VQ d,VQ e,VQ f]
theorem QH (h:cE L i k md m=0):an L≠0/\¬(¬(1<=md/\md<=3)\/bQ L k=false\/g8 L m=false)/\bW L i=1/\¬(aT L k=false\/¬(k.kind=6\/k.kind=7)\/bW L k.oid<0)/\
  ¬((k.kind=6/\bW L k.oid≠0/\¬(md=3/\k.oid=i))\/(k.kind=7/\bW L k.oid≠2))/\¬((k.kind=7/\4294967295<=(aq L k.oid.toNat free).calls)\/(md=1/\4294967295<=(aq L i.toNat free).calls)):=by
 by_cases a:an L=0
 ·rw[SH a]at h;omega
 ·by_cases b:¬(1<=md/\md<=3)\/bQ L k=false\/g8 L m=false
  ·rw[Dm a b]at h;omega
  ·by_cases c:bW L i=1
   ·by_cases d:aT L k=false\/¬(k.kind=6\/k.kind=7)\/bW L k.oid<0
    ·rw[Dc a b c d]at h;omega
    ·by_cases e:(k.kind=6/\bW L k.oid≠0/\¬(md=3/\k.oid=i))\/(k.kind=7/\bW L k.oid≠2)
     ·rw[Dk a b c d e]at h;omega
     ·by_cases f:(k.kind=7/\4294967295<=(aq L k.oid.toNat free).calls)\/(md=1/\4294967295<=(aq L i.toNat free).calls)
      ·rw[Di a b c d e f]at h;omega
      ·exact⟨a,b,c,d,e,f⟩
   ·rw[JW a b c]at h;omega
theorem mf {e:Int} (h:cE L i k md m=e) (he:e≠0):e=cE L i k md m/\L=fo L i k md m:=⟨h.symm,by unfold fo;rw[h,VQ he]⟩
theorem Hq (h:1<=md/\md<=3):0<=iy md/\iy md<=2/\aq [0,2,1,0] md.toNat 0=iy md/\vU (decide (md=1)) 2 (vU (decide (md=2)) 1 (vU (decide (md=3)) 0 0))=iy md:=by
 have:md=1\/md=2\/md=3:=by omega
 rcases this with rfl|rfl|rfl<;>decide
theorem Cd (hL:aw L) (hE:cE L i k md m=0):
  ((0<=i/\i<(L.length:Int))/\aD L i=aq L i.toNat free/\(aq L i.toNat free).kind=1)/\((0<=k.oid/\k.oid<(L.length:Int))/\aD L k.oid=aq L k.oid.toNat free/\(aq L k.oid.toNat free).kind=1)/\
  (ey L i (iy md)=0/\ie L i (iy md)=gx L i md)/\(aw (gx L i md)/\(gx L i md).length=L.length)/\(aw (gX L i k md)/\(gX L i k md).length=L.length)/\
  ((aq (gx L i md) k.oid.toNat free).kind=1/\(aq (gx L i md) k.oid.toNat free).calls=(aq L k.oid.toNat free).calls)/\(aq (gX L i k md) k.oid.toNat free).kind=1/\cC m.data<=32/\cz (L.length:Int) (jX L i md):=by
 obtain⟨a,b,c,d,e,f⟩:=QH hE
 have b1:1<=md/\md<=3:=by
  by_cases h:1<=md/\md<=3
  ·exact h
  ·exact absurd (.inl h) b
 have b3:g8 L m=true:=by
  cases h:g8 L m with
  |true=>rfl
  |false=>exact absurd (.inr (.inr h)) b
 have d3:0<=bW L k.oid:=by
  by_cases h:bW L k.oid<0
  ·exact absurd (.inr (.inr h)) d
  ·omega
 obtain⟨i0,i1,i2,i3⟩:=qV (rA.1.1 (by omega:0<=bW L i))
 obtain⟨k0,k1,k2,k3⟩:=qV (rA.1.1 d3);obtain⟨n0,n1,_,_⟩:=Hq b1;have hb:ey L i (iy md)=0:=O7 a (by rw[i2];exact i3) (by omega)
 have h1:ie L i (iy md)=gx L i md:=by unfold ie gx;rw[VR hb,i2]
 have o1:aw (gx L i md):=by rw[<-h1];exact Cm hL
 have l1:(gx L i md).length=L.length:=by unfold gx;rw[gP]
 have g1:(aq (gx L i md) k.oid.toNat free).kind=1/\(aq (gx L i md) k.oid.toNat free).calls=(aq L k.oid.toNat free).calls:=by
  unfold gx;rw[eO (by omega)]
  split
  ·rename_i e;rw[e];exact⟨i3,rfl⟩
  ·exact⟨k3,rfl⟩
 have l2:(gX L i k md).length=L.length:=by
  unfold gX;split
  ·rw[gP,l1]
  ·exact l1
 have o2:aw (gX L i k md):=by
  unfold gX;split
  ·rename_i h7;have hc:¬4294967295<=(aq L k.oid.toNat free).calls:=fun h=>f (.inl ⟨h7,h⟩)
   exact jk o1 (KN (cG o1 _ (by rw[l1];omega)) g1.1 (by rw[g1.2];omega))
  ·exact o1
 have g2:(aq (gX L i k md) k.oid.toNat free).kind=1:=by
  unfold gX;split
  ·rw[eO (by rw[l1];omega),VR rfl];exact g1.1
  ·exact g1.1
 have ho:=eo.1 (cG hL i.toNat (by omega))
 have hn:=(iN hL)
 have hA:cz (L.length:Int) (jX L i md):=by
  unfold jX;split
  ·exact MN i0 i1 (by omega) ho.2.2.2.2.1 ho.2.2.2.2.2.1 ho.2.2.2.2.2.2.1 ho.2.2.2.2.2.2.2.1
  ·exact xa (by omega)
 exact⟨⟨⟨i0,i1⟩,i2,i3⟩,⟨⟨k0,k1⟩,k2,k3⟩,⟨hb,h1⟩,⟨o1,l1⟩,⟨o2,l2⟩,g1,g2,CZ b3,hA⟩
theorem KA (hL:aw L) (hE:cE L i k md m=0):aw (fo L i k md m)/\(fo L i k md m).length=L.length/\bP (gX L i k md) k.oid (vW (aD (gX L i k md) k.oid) (lS L m) (jX L i md))=fo L i k md m:=by
 obtain⟨_,⟨⟨k0,k1⟩,_,_⟩,_,_,⟨o2,l2⟩,_,g2,_,hA⟩:=Cd hL hE;obtain⟨f0,f1,f2⟩:=zH (by have:=iN hL;omega:0<L.length) m
 have ho:=Cz (m:=lS L m) (a:=jX L i md) (cG o2 k.oid.toNat (by omega)) g2 (by rw[l2];exact f0) (by rw[l2];exact f1) (by rw[l2];exact f2) (by rw[l2];exact hA)
 have hq:fo L i k md m=dh (gX L i k md) k.oid.toNat (vW (aq (gX L i k md) k.oid.toNat free) (lS L m) (jX L i md)):=by unfold fo DZ;rw[VR hE]
 rw[hq,fK k0 (by omega)]
 exact⟨jk o2 ho,by rw[gP,l2],(j8 k0 (by omega) ho).1⟩
theorem Qv (hL:aw L):aw (fo L i k md m):=by
 by_cases hE:cE L i k md m=0
 ·exact(KA hL hE).1
 ·rw[<-(mf rfl hE).2];exact hL
end
theorem Fh (L:List Obj):eG L 0= []:=rfl
theorem FA (L:List Obj) {g:Int} (h:0<=g):eG L (g+1)=if bW L g=1 then gu (eG L g) g else eG L g:=by
 unfold eG gu;rw[show(g+1).toNat=g.toNat+1 by omega,List.range_succ,List.filter_append,List.map_append]
 have e:((g.toNat:Nat):Int)=g:=by omega
 by_cases hp:bW L g=1
 ·rw[VR hp];simp[e,hp]
 ·rw[VQ hp];simp[e,hp]
theorem Bb (L:List Obj) (g:Int):an (eG L g)<=g.toNat:=by
 unfold eG an;rw[List.length_map];exact Nat.le_trans (List.length_filter_le _ _) (by rw[List.length_range];exact Nat.le_refl _)
theorem HK {L:List Obj} {g:Int} (hl:ja L) (h1:g<(L.length:Int)):oW (an (eG L g)) 8:=by
 have:=Bb L g;unfold ja at hl;unfold oW maxLen;omega
theorem IJ {L:List Obj} {g:Int} (hl:ja L) (h0:jm L g) (h1:g<(L.length:Int)):aP IntKind.i64 (g+1)/\jm L (g+1)/\(bU (an L)-(g+1)).toNat<(bU (an L)-g).toNat:=by
 unfold ja at hl;unfold jm bU an at *;simp only[aP,cj];omega
end Go.Sx
