import Derived.Test.YtlblcfaclmpekaaGreatMa13
set_option linter.unusedSimpArgs false
set_option linter.unusedVariables false
set_option maxRecDepth 100000
namespace Go.Sx
def v9 (o:Obj):Bool:=decide (o.kind=1)&&decide ((o.slots.at 2).kind=1)&&decide (0<=(o.slots.at 2).value)&&decide ((o.slots.at 2).value<=2)
def dS (L:List Obj) (i:Int):Bool:=v9 (aL L i)
def iG (L:List Obj) (i:Int):Int:=if dS L i=true then((aL L i).slots.at 2).value else 0
def bw (L:List Obj) (i:Int):Int:=if dS L i=true then((aL L i).slots.at 2).value else -1
def iQ:ly (Int×Unit):=ba iA gJ
theorem U5:gR iQ:=aA dE bV
def VI:Ct:=s7 (ba AE iQ) (fun _=>none) fun x=> .it .i64 (bw x.1 x.2.1)
def aar:Ct:=s7 (ba sA iQ) (fun _=>none) fun x=> .tp [.it .i64 (iG (DG x.1) x.2.1),.bo (dS (DG x.1) x.2.1)]
theorem Lc {L:List Obj} {i:Int} (h:i<0\/(L.length:Int)<=i):aL L i=free:=by
 unfold aL;rw[aa1 fun e=>by have:=mR.1 e;omega]
theorem uQ (o:Obj):v9 o=true↔o.kind=1/\(o.slots.at 2).kind=1/\0<=(o.slots.at 2).value/\(o.slots.at 2).value<=2:=by
 unfold v9;simp only[aaV,aaW,and_assoc]
theorem ur {L:List Obj} {i:Int} (h:dS L i=false):bw L i= -1/\iG L i=0:=by
 unfold bw iG;rw[h];exact⟨rfl,rfl⟩
theorem mG {L:List Obj} {i:Int} (h:dS L i=true):bw L i=((aL L i).slots.at 2).value/\iG L i=((aL L i).slots.at 2).value:=by
 unfold bw iG;rw[h];exact⟨rfl,rfl⟩
theorem yg (o:Obj):(!decide (o.kind=1)|| !decide ((o.slots.at 2).kind=1)||decide ((o.slots.at 2).value<0)||decide (2<(o.slots.at 2).value))= !v9 o:=by
 have h:=uQ o;cases hp:v9 o with
 |true=>
  obtain⟨a,b,c,d⟩:=h.1 hp;have c':¬(o.slots.at 2).value<0:=by omega
  have d':¬2<(o.slots.at 2).value:=by omega
  simp[a,b,c',d']
 |false=>
  rw[Bool.not_false,Bool.or_eq_true,Bool.or_eq_true,Bool.or_eq_true,Bool.not_eq_true',Bool.not_eq_true',decide_eq_false_iff_not,decide_eq_false_iff_not,aaW,aaW];rw[hp]at h;have hn:¬(o.kind=1/\(o.slots.at 2).kind=1/\0<=(o.slots.at 2).value/\(o.slots.at 2).value<=2):=fun hh=>by have:=h.2 hh;simp at this
  omega
def er (L:List Obj) (i st:Int):Int:=if ai L=0 then 1 else if¬(aL L i).kind=1 then 230 else if st<0\/2<st then 2 else 0
def EC (o:Obj) (st:Int):Obj:= {o with slots:=o.slots.put 2 (bL st)}
def dg (L:List Obj) (i st:Int):List Obj:=if er L i st=0 then b6 L i.toNat (EC (aL L i) st)else L
def ku (L:List Obj) (i st:Int):Bool:=decide (er L i st=0)
def Z7:ly (Int×Int×Unit):=ba iA (ba iA gJ)
theorem OV:gR Z7:=aA dE (aA dE bV)
def VH:kq:=Az (uw Z7) (fun L _=>aq L) (fun L x=>ku L x.1 x.2.1) (fun L x=>dg L x.1 x.2.1) fun L x=> [.it .i64 (er L x.1 x.2.1)]
def ZK:kq:=JV (uw Z7) (fun L _=>aq L) (fun L x=> .it .i64 (er L x.1 x.2.1)) fun L x=>dg L x.1 x.2.1
structure bp where
 code:Int
 data:ByteArray
 k0:Key
 k1:Key
 k2:Key
def jJ (m:bp):V:= .ag [.it .i64 m.code,.st m.data,.ag [.key m.k0,.key m.k1,.key m.k2]]
def cY:bp:=⟨0,⟨#[]⟩,void,void,void⟩
def AL (v:V):Option bp:=
 match v with
 | .ag l=>match l with
   | [a,b,c]=>match rI .i64 a with
     |some n=>match EM b with
      |some s=>match c with
       | .ag l'=>match l' with
         | [x,y,z]=>match rK x with
           |some k=>match rK y with
            |some k'=>match rK z with
             |some k''=>some ⟨n,s,k,k',k''⟩
             |none=>none
            |none=>none
           |none=>none
         |_=>none
       |_=>none
      |none=>none
     |none=>none
   |_=>none
 |_=>none
theorem DA:tc AL jJ:=by
 intro v x h;unfold AL at h;split at h
 case h_2=>simp at h
 split at h
 case h_2=>simp at h
 rename_i a b c;split at h
 case h_2=>simp at h
 rename_i n hn;split at h
 case h_2=>simp at h
 rename_i s hs;split at h
 case h_2=>simp at h
 split at h
 case h_2=>simp at h
 rename_i p q r;split at h
 case h_2=>simp at h
 rename_i k hk;split at h
 case h_2=>simp at h
 rename_i k' hk';split at h<;>simp only[aaT,reduceCtorEq]at h
 rename_i k'' hk'';subst h;refine⟨fun J=>?_,fun K hK=>?_⟩
 ·simp only[den,jJ,bn,(gq .i64 _ _ hn).1 J,(yq _ _ hs).1 J,(gI _ _ hk).1 J,(gI _ _ hk').1 J,(gI _ _ hk'').1 J]
 ·obtain⟨h1,h2⟩:=hK;obtain⟨g1,g2⟩:=h1.2.2.1;exact⟨⟨(gq .i64 _ _ hn).2 K h1.1,(yq _ _ hs).2 K h1.2.1,⟨⟨(gI _ _ hk).2 K g1.1,(gI _ _ hk').2 K g1.2.1,(gI _ _ hk'').2 K g1.2.2.1,trivial⟩,by simp[tv]⟩,trivial⟩,by simp[tv]⟩
def mA:Arg bp:=Fw AL jJ
theorem zY:m8 mA:=sm DA (fun _=>rfl) fun v x h=>by cases v<;>simp[AL]at h;rfl
def fk (L:List Obj) (m:bp):Bool:=decide (bO m.data<=32)&&bJ L m.k0&&bJ L m.k1&&bJ L m.k2
def aH (L:List Obj) (m:bp):bp:=⟨m.code,m.data,ah L m.k0,ah L m.k1,ah L m.k2⟩
def Br (s:cZ) (m:bp) (a:Key):cZ:=(((((s.put 2 (bL 1)).put 3 (bL m.code)).put 12 m.k0).put 13 m.k1).put 14 m.k2).put 15 a
def Bm (s:ByteArray) (g:Int):Bytes:=s6 (e9.put 0 (UInt8.ofNat s.size)) 1 g.toNat s
def za (o:Obj) (m:bp) (a:Key):Obj:=⟨o.kind,o.count,o.calls,Br o.slots m a,Bm m.data (bO m.data)⟩
def r9 (L:List Obj) (i:Int) (m:bp) (a:Key) (g:Int):Obj:=⟨(aj L i.toNat free).kind,(aj L i.toNat free).count,(aj L i.toNat free).calls,Br (aj L i.toNat free).slots m a,Bm m.data g⟩
def rP (L:List Obj) (i:Int) (m:bp) (a:Key):List Obj:=b6 L i.toNat (za (aj L i.toNat free) m a)
def hdB:ly (List Obj×Int×bp×Key×Unit):=ba AE (ba iA (ba mA (ba kA gJ)))
theorem WB:gR hdB:=aA jC (aA dE (aA zY (aA iI bV)))
def A4 (L:List Obj) (i:Int) (m:bp):Prop:=dO L i/\(0<=i/\i<(ai L:Int))/\bO m.data<=32
def Tv:kq:=UI hdB (fun x=>A4 x.1 x.2.1 x.2.2.1) (fun _=>true) (fun _=>ke) (fun _ n=> .sa n) fun x=> .arr (some tO) 163 (.ob (rP x.1 x.2.1 x.2.2.1 x.2.2.2.1))
def Xj:Ct:=s7 (ba AE (ba mA gJ)) (fun x=>some (aw x.2.1.data)) fun x=> .bo (fk x.1 x.2.1)
def X0:Ct:=s7 (ba AE (ba mA gJ)) (fun _=>none) fun x=>jJ (aH x.1 x.2.1)
def b9 (L:List Obj) (i:Int) (k:Key) (md:Int) (m:bp):Int:=
 if ai L=0 then 1 else if¬(1<=md/\md<=3)\/bJ L k=false\/fk L m=false then 2 else if bw L i≠1 then 230
 else if aU L k=false\/¬(k.kind=6\/k.kind=7)\/bw L k.oid<0 then 231
 else if(k.kind=6/\bw L k.oid≠0/\¬(md=3/\k.oid=i))\/(k.kind=7/\bw L k.oid≠2)then 232
 else if(k.kind=7/\4294967295<=(aj L k.oid.toNat free).calls)\/(md=1/\4294967295<=(aj L i.toNat free).calls)then 233 else 0
def iO (L:List Obj) (i md:Int):Key:=if md=1 then⟨7,i,(aj L i.toNat free).count,(aj L i.toNat free).calls,0,0⟩else void
def jM (md:Int):Int:=if md=1 then 2 else if md=2 then 1 else 0
def Ig (L:List Obj) (i:Int) (k:Key) (md:Int) (m:bp):Prop:=
 ai L≠0/\(1<=md/\md<=3)/\bJ L k=true/\fk L m=true/\bw L i=1/\aU L k=true/\(k.kind=6\/k.kind=7)/\0<=bw L k.oid/\
 ¬((k.kind=6/\bw L k.oid≠0/\¬(md=3/\k.oid=i))\/(k.kind=7/\bw L k.oid≠2))/\¬(k.kind=7/\4294967295<=(aj L k.oid.toNat free).calls)
def n9 (L:List Obj) (i:Int) (k:Key) (md:Int) (m:bp):Prop:=b9 L i k md m=0
def OX (o:Obj):Obj:= {o with calls:=o.calls+1}
def gS (L:List Obj) (i md:Int):List Obj:=b6 L i.toNat (EC (aj L i.toNat free) (jM md))
def h9 (L:List Obj) (i:Int) (k:Key) (md:Int):List Obj:=if k.kind=7 then b6 (gS L i md) k.oid.toNat (OX (aj (gS L i md) k.oid.toNat free))else gS L i md
def fe (L:List Obj) (i:Int) (k:Key) (md:Int) (m:bp):List Obj:=if b9 L i k md m=0 then rP (h9 L i k md) k.oid (aH L m) (iO L i md)else L
def lR (L:List Obj) (i:Int) (k:Key) (md:Int) (m:bp):Bool:=decide (b9 L i k md m=0)
def gf (L:List Obj) (i:Int) (m:bp):Int:=if ai L=0 then 1 else if fk L m=false then 2 else if bw L i≠1 then 230 else 0
def gx (L:List Obj) (i:Int) (m:bp):List Obj:=if gf L i m=0 then rP L i (aH L m) void else L
def pM (L:List Obj) (i:Int) (m:bp):Bool:=decide (gf L i m=0)
abbrev tM:Nat:=47
def bcB:ly (List Obj×Int×Int×Unit):=ba AE (ba iA (ba iA gJ))
theorem Wq:gR bcB:=aA jC (aA dE (aA dE bV))
def IK (L:List Obj) (i st:Int):Prop:=er L i st=0/\aq L
def SB:kq:=UI bcB (fun x=>IK x.1 x.2.1 x.2.2.1) (fun _=>true) (fun _=>ke) (fun _ n=> .tp [.sa n,.ci .i64 0]) fun x=> .arr (some tO) 163 (.ob (dg x.1 x.2.1 x.2.2.1))
def ivB:ly (Int×Key×Int×bp×Unit):=ba iA (ba kA (ba iA (ba mA gJ)))
theorem K8:gR ivB:=aA dE (aA iI (aA dE (aA zY bV)))
def anB:ly (Int×bp×Unit):=ba iA (ba mA gJ)
theorem NB:gR anB:=aA dE (aA zY bV)
def Vz:kq:=Az (uw ivB) (fun L x=>aq L/\aw x.2.2.2.1.data) (fun L x=>lR L x.1 x.2.1 x.2.2.1 x.2.2.2.1) (fun L x=>fe L x.1 x.2.1 x.2.2.1 x.2.2.2.1) fun L x=> [.it .i64 (b9 L x.1 x.2.1 x.2.2.1 x.2.2.2.1)]
def Xg:kq:=Az (uw anB) (fun L x=>aq L/\aw x.2.1.data) (fun L x=>pM L x.1 x.2.1) (fun L x=>gx L x.1 x.2.1) fun L x=> [.it .i64 (gf L x.1 x.2.1)]
def aab:kq:=YE (uw ivB) (fun x=>aw x.2.2.2.1.data) (fun L x=>aq L/\aw x.2.2.2.1.data) (fun L x=> .it .i64 (b9 L x.1 x.2.1 x.2.2.1 x.2.2.2.1)) fun L x=>fe L x.1 x.2.1 x.2.2.1 x.2.2.2.1
def Y4:kq:=YE (uw anB) (fun x=>aw x.2.1.data) (fun L x=>aq L/\aw x.2.1.data) (fun L x=> .it .i64 (gf L x.1 x.2.1)) fun L x=>gx L x.1 x.2.1
def F8:Ct:=fun res _ xs=>match xs with
 | [a]=>match rS tS eS res a with
   |some (_,L)=>match L with
    | []=>some (none,.ci .i64 0,[])
    |_=>none
   |none=>none
 |_=>none
theorem UL {P:Program} {f:Nat} (h:cz P f GV):cz P f F8:=by
 intro J fps res K w0 F0 w nid args q x new hH hargs hg hq hfr;unfold F8 at hg;split at hg
 case h_2=>simp at hg
 rename_i a;split at hg
 case h_2=>simp at hg
 rename_i o L hr;split at hg<;>simp only[aaT,aaU,reduceCtorEq]at hg
 obtain⟨rfl,rfl,rfl⟩:=hg;obtain⟨h1,h2⟩:=h J fps res K w0 F0 w nid [a] none (.it .i64 (ak [])) [] hH hargs (by unfold GV XK;simp only[hr]) trivial hfr
 refine⟨h1.mono ?_,h2⟩;rintro e w' ⟨v,he,ρ',g,hv,_⟩
 refine⟨v,he,ρ',g,hv,?_⟩;simp[ok,cc]
def kdX (nid:Nat):V:= .mp nid
def kdN (nid:Nat):List aK:= [.mp .i64 [6,7] [.fn 126 [],.fn 127 []]]
def dL (L:List Obj) (g:Int):List Int:=((List.range g.toNat).filter fun(j:Nat)=>decide (bw L (j:Int)=1)).map Int.ofNat
def iB (L:List Obj) (g:Int):Prop:=0<=g/\g<=(ai L:Int)
def iu (L:List Obj):Prop:=L.length<=1000
def Wz:kq:=UI (ba AE gJ) (fun x=>iu x.1) (fun _=>true) (fun _=>ke) (fun _ n=> .sa n) fun x=> .arr (some tI) 1 (.it .i64 (dL x.1 (bQ (ai x.1))))
def ZQ:kq:=UI (ba sA gJ) (fun x=>iu (DG x.1)) (fun _=>true) (fun _=>ke) (fun _ n=> .sa n) fun x=> .arr (some tI) 1 (.it .i64 (dL (DG x.1) (bQ (ai (DG x.1)))))
theorem FU {L:List Obj} {i:Int} (h:(aL L i).kind=1):0<=i/\i<(L.length:Int)/\aL L i=aj L i.toNat free:=by
 by_cases hr:i<0\/(L.length:Int)<=i
 ·rw[Lc hr]at h;simp[free]at h
 ·exact⟨by omega,by omega,fG (by omega) (by omega)⟩
theorem o7 {L:List Obj} {i:Int} (h:dS L i=true):0<=i/\i<(L.length:Int)/\aL L i=aj L i.toNat free/\(aj L i.toNat free).kind=1:=by
 have hk:=((uQ _).1 h).1;obtain⟨a,b,c⟩:=FU hk;rw[c]at hk;exact⟨a,b,c,hk⟩
theorem qM {L:List Obj} {i:Int}:(0<=bw L i↔dS L i=true)/\(bw L i<0↔dS L i=false):=by
 cases h:dS L i with
 |false=>rw[(ur h).1];simp
 |true=>
  have h2:=(mG h).1;have h3:=((uQ _).1 h).2.2.1;rw[<-h2]at h3;simp;exact h3
theorem Hy {L:List Obj} {i:Int}:(dS L i&&decide (iG L i=1))=decide (bw L i=1):=by
 cases h:dS L i with
 |false=>rw[(ur h).1];simp
 |true=>rw[(mG h).1,(mG h).2];simp
theorem ZY {L:List Obj} {i:Int} (h:dS L i=true):iG L i=bw L i:=by rw[(mG h).1,(mG h).2]
theorem L6 {o:Obj} {n st:Int} (h:bM o n=true) (hk:o.kind=1):bM (EC o st) n=true:=by
 have hn:=(fo.1 h).1;exact zF h hk (RT (by omega) (sB h hk) (sI (by omega) _))
theorem Ma {o:Obj} {n:Int} (h:bM o n=true) (hk:o.kind=1) (hc:o.calls<4294967295):bM (OX o) n=true:=by
 obtain⟨a1,a2,a3,a4,a5,a6,a7,a8,a9,a10,a11⟩:=fo.1 h;rw[fo];exact⟨a1,a2,a3,a4,a5,a6,by show 0<=o.calls+1;omega,by show o.calls+1<=4294967295;omega,.inl hk,a10,a11⟩
theorem MM {o:Obj} {n:Int} {s:cZ} {b:Bytes} (h:bM o n=true) (hk:o.kind=1) (hs:∀i,i<16->dF n (s.at i)):bM (jV (ew o s) b) n=true:=by
 have h':bM (ew o s) n=true:=zF h hk hs;have hk':(ew o s).kind=1:=hk;exact Nd h' (Or.inl hk')
theorem GY {o:Obj} {n:Int} {m:bp} {a:Key} (h:bM o n=true) (hk:o.kind=1) (h0:dF n m.k0) (h1:dF n m.k1) (h2:dF n m.k2) (ha:dF n a):bM (za o m a) n=true:=by
 have hn:=(fo.1 h).1
 have hs:∀i,i<16->dF n ((Br o.slots m a).at i):=fun i hi=>by
  unfold Br;rw[cZ.gd _ _ _ _ (by omega),cZ.gd _ _ _ _ (by omega),cZ.gd _ _ _ _ (by omega),cZ.gd _ _ _ _ (by omega),cZ.gd _ _ _ _ (by omega),cZ.gd _ _ _ _ (by omega)]
  split
  ·exact ha
  ·split
   ·exact h2
   ·split
    ·exact h1
    ·split
     ·exact h0
     ·split
      ·exact sI (by omega) _
      ·split
       ·exact sI (by omega) _
       ·exact sB h hk i hi
 have e:za o m a=jV (ew o (Br o.slots m a)) (Bm m.data (bO m.data)):=by unfold za jV ew;rfl
 rw[e];exact MM h hk hs
theorem Ah {n:Int} (hn:0<=n):dF n void:=⟨nb.1,by rw[nb.2];omega⟩
theorem Ut {n i c d:Int} (h0:0<=i) (h1:i<n) (h2:n<=64) (c0:0<=c) (c1:c<=4294967295) (d0:0<=d) (d1:d<=4294967295):dF n ⟨7,i,c,d,0,0⟩:=by
 have hk:aV ⟨7,i,c,d,0,0⟩=true:=by
  unfold aV kG ea gO fZ fy;simp;omega
 refine⟨hk,?_⟩;unfold bf;rw[hk];simp[ea];omega
theorem Df {L:List Obj} (hL:0<L.length) (m:bp):dF (L.length:Int) (aH L m).k0/\dF (L.length:Int) (aH L m).k1/\dF (L.length:Int) (aH L m).k2:=⟨pN hL _,pN hL _,pN hL _⟩
theorem Nx {s:ByteArray} (h:bO s<=32):KB (e9.put 0 (Vf (bO s))) (Int.toNat 1) (Int.toNat 64) s=Bm s (bO s):=by
 have hz:(s.size:Int)<=32:=h;have e:Nat.min s.size (64-1)=s.size:=Nat.min_eq_left (by omega)
 show s6 _ 1 (Nat.min s.size (64-1)) s=s6 _ 1 (bO s).toNat s
 rw[e];rfl
theorem O5 {L:List Obj} {i st:Int} (h:er L i st=0):(0<=i/\i<(L.length:Int))/\aL L i=aj L i.toNat free/\(aj L i.toNat free).kind=1/\0<=st/\st<=2:=by
 unfold er at h;split at h
 ·omega
 ·split at h
  ·omega
  ·split at h
   ·omega
   ·rename_i h1 h2 h3;have h2:(aL L i).kind=1:=by omega
    obtain⟨a,b,c⟩:=FU h2;exact⟨⟨a,b⟩,c,by rw[<-c];exact h2,by omega,by omega⟩
theorem G6 {L:List Obj} {i st:Int} (hL:aq L):aq (dg L i st):=by
 unfold dg;split
 ·rename_i h;obtain⟨⟨a,b⟩,c,d,_⟩:=O5 h;rw[c];exact kS hL (L6 (dt hL _ (by omega)) d)
 ·exact hL
theorem GI {L:List Obj} {i st e:Int} (h:er L i st=e) (he:e≠0):e=er L i st/\L=dg L i st:=⟨h.symm,by unfold dg;rw[h,aa1 he]⟩
theorem Vr {L:List Obj} {i st:Int} (h:ai L=0):er L i st=1:=by unfold er;rw[aa2 h]
theorem H4 {L:List Obj} {i st:Int} (h:ai L≠0) (h2:¬(aL L i).kind=1):er L i st=230:=by unfold er;rw[aa1 h,aa2 h2]
theorem Vl {L:List Obj} {i st:Int} (h:ai L≠0) (h2:(aL L i).kind=1) (h3:st<0\/2<st):er L i st=2:=by unfold er;rw[aa1 h,aa1 (by omega),aa2 h3]
theorem LD {L:List Obj} {i st:Int} (h:ai L≠0) (h2:(aL L i).kind=1) (h3:¬(st<0\/2<st)):er L i st=0:=by unfold er;rw[aa1 h,aa1 (by omega),aa1 h3]
theorem Oa {L:List Obj} {i st:Int} (hL:aq L) (h:er L i st=0):gi L i (EC (aL L i) st)=0/\cK L i (EC (aL L i) st)=dg L i st:=by
 obtain⟨⟨a,b⟩,c,d,_⟩:=O5 h;obtain⟨p1,p2⟩:=my a b (L6 (st:=st) (dt hL _ (by omega)) d)
 rw[c,p1,p2];refine⟨rfl,?_⟩;unfold dg;rw[aa2 h,c]
theorem sY {L:List Obj} {i:Int} (hL:aq L) (h0:0<=i) (h1:i<(L.length:Int)):dO L i:=⟨h0,h1,by have:=(gY hL).2;unfold ai;omega⟩
theorem TA {L:List Obj} {i:Int} (h:(decide (i<0)||decide (bQ (ai L)<=i)|| !decide ((aj L i.toNat free).kind=1))=true):¬(aL L i).kind=1:=fun hk=>by
 obtain⟨a,b,c⟩:=FU hk;rw[c]at hk;have hb:¬bQ (ai L)<=i:=by unfold bQ ai;omega
 rw[decide_eq_false (by omega:¬i<0),decide_eq_false hb,decide_eq_true hk]at h
 simp at h
theorem DL {L:List Obj} {i:Int} (h:(decide (i<0)||decide (bQ (ai L)<=i)|| !decide ((aj L i.toNat free).kind=1))=false):0<=i/\i<(L.length:Int)/\aL L i=aj L i.toNat free/\(aL L i).kind=1:=by
 simp only[Bool.or_eq_false_iff,decide_eq_false_iff_not,Bool.not_eq_false',aaW]at h;obtain⟨⟨h1,h2⟩,h3⟩:=h;unfold bQ ai at h2;have e:=fG (L:=L) (j:=i) (by omega) (by omega)
 exact⟨by omega,by omega,e,by rw[e];exact h3⟩
theorem CQ {L:List Obj} {m:bp} (h:fk L m=true):bO m.data<=32:=by
 unfold fk at h;simp only[aaV,aaW]at h;exact h.1.1.1
section
variable {L:List Obj} {i:Int} {k:Key} {md:Int} {m:bp}
theorem Yq (a:ai L=0):b9 L i k md m=1:=by unfold b9;rw[aa2 a]
theorem DK (a:ai L≠0) (b:¬(1<=md/\md<=3)\/bJ L k=false\/fk L m=false):b9 L i k md m=2:=by unfold b9;rw[aa1 a,aa2 b]
theorem G2 (a:ai L≠0) (b:¬(¬(1<=md/\md<=3)\/bJ L k=false\/fk L m=false)) (c:bw L i≠1):b9 L i k md m=230:=by unfold b9;rw[aa1 a,aa1 b,aa2 c]
theorem Ay (a:ai L≠0) (b:¬(¬(1<=md/\md<=3)\/bJ L k=false\/fk L m=false)) (c:bw L i=1) (d:aU L k=false\/¬(k.kind=6\/k.kind=7)\/bw L k.oid<0):b9 L i k md m=231:=by
 unfold b9;rw[aa1 a,aa1 b,aa1 (by omega),aa2 d]
theorem CS (a:ai L≠0) (b:¬(¬(1<=md/\md<=3)\/bJ L k=false\/fk L m=false)) (c:bw L i=1) (d:¬(aU L k=false\/¬(k.kind=6\/k.kind=7)\/bw L k.oid<0))
  (e:(k.kind=6/\bw L k.oid≠0/\¬(md=3/\k.oid=i))\/(k.kind=7/\bw L k.oid≠2)):b9 L i k md m=232:=by
 unfold b9;rw[aa1 a,aa1 b,aa1 (by omega),aa1 d,aa2 e]
theorem CY (a:ai L≠0) (b:¬(¬(1<=md/\md<=3)\/bJ L k=false\/fk L m=false)) (c:bw L i=1) (d:¬(aU L k=false\/¬(k.kind=6\/k.kind=7)\/bw L k.oid<0))
  (e:¬((k.kind=6/\bw L k.oid≠0/\¬(md=3/\k.oid=i))\/(k.kind=7/\bw L k.oid≠2))) (f:(k.kind=7/\4294967295<=(aj L k.oid.toNat free).calls)\/(md=1/\4294967295<=(aj L i.toNat free).calls)):b9 L i k md m=233:=by
 unfold b9;rw[aa1 a,aa1 b,aa1 (by omega),aa1 d,aa1 e,aa2 f]
theorem Zc (a:ai L≠0) (b:¬(¬(1<=md/\md<=3)\/bJ L k=false\/fk L m=false)) (c:bw L i=1) (d:¬(aU L k=false\/¬(k.kind=6\/k.kind=7)\/bw L k.oid<0))
  (e:¬((k.kind=6/\bw L k.oid≠0/\¬(md=3/\k.oid=i))\/(k.kind=7/\bw L k.oid≠2))) (f:¬((k.kind=7/\4294967295<=(aj L k.oid.toNat free).calls)\/(md=1/\4294967295<=(aj L i.toNat free).calls))):b9 L i k md m=0:=by
 unfold b9;rw[aa1 a,aa1 b,aa1 (by omega),aa1 d,aa1 e,aa1 f]
theorem VK (h:b9 L i k md m=0):ai L≠0/\¬(¬(1<=md/\md<=3)\/bJ L k=false\/fk L m=false)/\bw L i=1/\¬(aU L k=false\/¬(k.kind=6\/k.kind=7)\/bw L k.oid<0)/\
  ¬((k.kind=6/\bw L k.oid≠0/\¬(md=3/\k.oid=i))\/(k.kind=7/\bw L k.oid≠2))/\¬((k.kind=7/\4294967295<=(aj L k.oid.toNat free).calls)\/(md=1/\4294967295<=(aj L i.toNat free).calls)):=by
 by_cases a:ai L=0
 ·rw[Yq a]at h;omega
 ·by_cases b:¬(1<=md/\md<=3)\/bJ L k=false\/fk L m=false
  ·rw[DK a b]at h;omega
  ·by_cases c:bw L i=1
   ·by_cases d:aU L k=false\/¬(k.kind=6\/k.kind=7)\/bw L k.oid<0
    ·rw[Ay a b c d]at h;omega
    ·by_cases e:(k.kind=6/\bw L k.oid≠0/\¬(md=3/\k.oid=i))\/(k.kind=7/\bw L k.oid≠2)
     ·rw[CS a b c d e]at h;omega
     ·by_cases f:(k.kind=7/\4294967295<=(aj L k.oid.toNat free).calls)\/(md=1/\4294967295<=(aj L i.toNat free).calls)
      ·rw[CY a b c d e f]at h;omega
      ·exact⟨a,b,c,d,e,f⟩
   ·rw[G2 a b c]at h;omega
theorem nA {e:Int} (h:b9 L i k md m=e) (he:e≠0):e=b9 L i k md m/\L=fe L i k md m:=⟨h.symm,by unfold fe;rw[h,aa1 he]⟩
theorem tY {e:Int} (h:b9 L i k md m=e) (he:e≠0):lR L i k md m=false/\e=b9 L i k md m:=⟨by unfold lR;rw[h];simpa using he,h.symm⟩
theorem Vy:(decide (md<1)||decide (3<md)|| !bJ L k|| !fk L m)=true↔(¬(1<=md/\md<=3)\/bJ L k=false\/fk L m=false):=by
 cases bJ L k<;>cases fk L m<;>simp<;>omega
theorem Vx:(!aU L k|| !decide (k.kind=6)&& !decide (k.kind=7))=true↔(aU L k=false\/¬(k.kind=6\/k.kind=7)):=by
 cases aU L k<;>simp
theorem Vi:(decide (k.kind=6)&& !decide (bw L k.oid=0)&& !(decide (md=3)&&decide (k.oid=i))||decide (k.kind=7)&& !decide (bw L k.oid=2))=true↔((k.kind=6/\bw L k.oid≠0/\¬(md=3/\k.oid=i))\/(k.kind=7/\bw L k.oid≠2)):=by
 simp[and_assoc,Classical.or_iff_not_imp_left (a:=¬md=3)]
theorem Vs {x y:Int}:(decide (k.kind=7)&&decide (4294967295<=x)||decide (md=1)&&decide (4294967295<=y))=true↔((k.kind=7/\4294967295<=x)\/(md=1/\4294967295<=y)):=by simp
theorem Gk (h:1<=md/\md<=3):0<=jM md/\jM md<=2/\aj [0,2,1,0] md.toNat 0=jM md/\Ag (decide (md=1)) 2 (Ag (decide (md=2)) 1 (Ag (decide (md=3)) 0 0))=jM md:=by
 have:md=1\/md=2\/md=3:=by omega
 rcases this with rfl|rfl|rfl<;>decide
theorem Af (hL:aq L) (hE:b9 L i k md m=0):
 ((0<=i/\i<(L.length:Int))/\aL L i=aj L i.toNat free/\(aj L i.toNat free).kind=1)/\((0<=k.oid/\k.oid<(L.length:Int))/\aL L k.oid=aj L k.oid.toNat free/\(aj L k.oid.toNat free).kind=1)/\(er L i (jM md)=0/\dg L i (jM md)=gS L i md)/\(aq (gS L i md)/\(gS L i md).length=L.length)/\(aq (h9 L i k md)/\(h9 L i k md).length=L.length)/\((aj (gS L i md) k.oid.toNat free).kind=1/\(aj (gS L i md) k.oid.toNat free).calls=(aj L k.oid.toNat free).calls)/\(aj (h9 L i k md) k.oid.toNat free).kind=1/\bO m.data<=32/\dF (L.length:Int) (iO L i md):=by
 obtain⟨a,b,c,d,e,f⟩:=VK hE
 have b1:1<=md/\md<=3:=by
  by_cases h:1<=md/\md<=3
  ·exact h
  ·exact absurd (.inl h) b
 have b3:fk L m=true:=by
  cases h:fk L m with
  |true=>rfl
  |false=>exact absurd (.inr (.inr h)) b
 have d3:0<=bw L k.oid:=by
  by_cases h:bw L k.oid<0
  ·exact absurd (.inr (.inr h)) d
  ·omega
 obtain⟨i0,i1,i2,i3⟩:=o7 (qM.1.1 (by omega:0<=bw L i))
 obtain⟨k0,k1,k2,k3⟩:=o7 (qM.1.1 d3);obtain⟨n0,n1,_,_⟩:=Gk b1;have hb:er L i (jM md)=0:=LD a (by rw[i2];exact i3) (by omega)
 have h1:dg L i (jM md)=gS L i md:=by unfold dg gS;rw[aa2 hb,i2]
 have o1:aq (gS L i md):=by rw[<-h1];exact G6 hL
 have l1:(gS L i md).length=L.length:=by unfold gS;rw[iy]
 have g1:(aj (gS L i md) k.oid.toNat free).kind=1/\(aj (gS L i md) k.oid.toNat free).calls=(aj L k.oid.toNat free).calls:=by
  unfold gS;rw[gh (by omega)]
  split
  ·rename_i e;rw[e];exact⟨i3,rfl⟩
  ·exact⟨k3,rfl⟩
 have l2:(h9 L i k md).length=L.length:=by
  unfold h9;split
  ·rw[iy,l1]
  ·exact l1
 have o2:aq (h9 L i k md):=by
  unfold h9;split
  ·rename_i h7;have hc:¬4294967295<=(aj L k.oid.toNat free).calls:=fun h=>f (.inl ⟨h7,h⟩)
   exact kS o1 (Ma (dt o1 _ (by rw[l1];omega)) g1.1 (by rw[g1.2];omega))
  ·exact o1
 have g2:(aj (h9 L i k md) k.oid.toNat free).kind=1:=by
  unfold h9;split
  ·rw[gh (by rw[l1];omega),aa2 rfl];exact g1.1
  ·exact g1.1
 have ho:=fo.1 (dt hL i.toNat (by omega))
 have hn:=(gY hL)
 have hA:dF (L.length:Int) (iO L i md):=by
  unfold iO;split
  ·exact Ut i0 i1 (by omega) ho.2.2.2.2.1 ho.2.2.2.2.2.1 ho.2.2.2.2.2.2.1 ho.2.2.2.2.2.2.2.1
  ·exact Ah (by omega)
 exact⟨⟨⟨i0,i1⟩,i2,i3⟩,⟨⟨k0,k1⟩,k2,k3⟩,⟨hb,h1⟩,⟨o1,l1⟩,⟨o2,l2⟩,g1,g2,CQ b3,hA⟩
theorem Gq (hL:aq L) (hE:b9 L i k md m=0):aq (fe L i k md m)/\(fe L i k md m).length=L.length/\cK (h9 L i k md) k.oid (za (aL (h9 L i k md) k.oid) (aH L m) (iO L i md))=fe L i k md m:=by
 obtain⟨_,⟨⟨k0,k1⟩,_,_⟩,_,_,⟨o2,l2⟩,_,g2,_,hA⟩:=Af hL hE;obtain⟨f0,f1,f2⟩:=Df (by have:=gY hL;omega:0<L.length) m
 have ho:=GY (m:=aH L m) (a:=iO L i md) (dt o2 k.oid.toNat (by omega)) g2 (by rw[l2];exact f0) (by rw[l2];exact f1) (by rw[l2];exact f2) (by rw[l2];exact hA)
 have hq:fe L i k md m=b6 (h9 L i k md) k.oid.toNat (za (aj (h9 L i k md) k.oid.toNat free) (aH L m) (iO L i md)):=by unfold fe rP;rw[aa2 hE]
 rw[hq,fG k0 (by omega)]
 exact⟨kS o2 ho,by rw[iy,l2],(my k0 (by omega) ho).1⟩
theorem VY (hL:aq L):aq (fe L i k md m):=by
 by_cases hE:b9 L i k md m=0
 ·exact(Gq hL hE).1
 ·rw[<-(nA rfl hE).2];exact hL
end
theorem wU (L:List Obj):dL L 0= []:=rfl
theorem wC (L:List Obj) {g:Int} (h:0<=g):dL L (g+1)=if bw L g=1 then jm (dL L g) g else dL L g:=by
 unfold dL jm;rw[show(g+1).toNat=g.toNat+1 by omega,List.range_succ,List.filter_append,List.map_append]
 have e:((g.toNat:Nat):Int)=g:=by omega
 by_cases hp:bw L g=1
 ·rw[aa2 hp];simp[e,hp]
 ·rw[aa1 hp];simp[e,hp]
theorem EB (L:List Obj) (g:Int):ai (dL L g)<=g.toNat:=by
 unfold dL ai;rw[List.length_map];exact Nat.le_trans (List.length_filter_le _ _) (by rw[List.length_range];exact Nat.le_refl _)
theorem Ee {L:List Obj} {g:Int} (hl:iu L) (h1:g<(L.length:Int)):s5 (ai (dL L g)) 8:=by
 have:=EB L g;unfold iu at hl;unfold s5 maxLen;omega
theorem EZ {L:List Obj} {g:Int} (hl:iu L) (h0:iB L g) (h1:g<(L.length:Int)):aF IntKind.i64 (g+1)/\iB L (g+1)/\(bQ (ai L)-(g+1)).toNat<(bQ (ai L)-g).toNat:=by
 unfold iu at hl;unfold iB bQ ai at *;simp only[aF,cc];omega
end Go.Sx
namespace Go.Proofs.YtlblcfaclmpekaaGreat
open Go.Sx
theorem S0 (L:List Sx.Obj) (i:Int):
 ((!(decide (i<0)||decide (bQ (ai L)<=i)))=true->0<=i/\i< ↑(ai L))/\((!(decide (i<0)||decide (bQ (ai L)<=i)))=true->i.toNat<ai L)/\aba (decide (i<0)||decide (bQ (ai L)<=i)|| !decide ((aj L i.toNat free).kind=1)) (-1=bw L i) ((0<=i/\i< ↑(ai L))/\i.toNat<ai L/\aba (!decide (((aj L i.toNat free).slots.at 2).kind=1)||decide (((aj L i.toNat free).slots.at 2).value<0)||decide (2<((aj L i.toNat free).slots.at 2).value)) (-1=bw L i) (((aj L i.toNat free).slots.at 2).value=bw L i)):=by
 delta aba
 have hn:bQ (ai L)=(L.length:Int):=rfl;have hl:ai L=L.length:=rfl;rw[hn,hl]
 have hin:∀{b:Bool},(!(decide (i<0)||decide ((L.length:Int)<=i)))=true->0<=i/\i<(L.length:Int):=fun h=>by
  simp only[Bool.not_eq_true',Bool.or_eq_false_iff,decide_eq_false_iff_not]at h;omega
 refine⟨fun h=>hin (b:=true) h,fun h=>by have:=hin (b:=true) h;omega,fun h=>?_,fun h=>?_⟩
 ·simp only[Bool.or_eq_true,Bool.not_eq_true',aaW,decide_eq_false_iff_not]at h;refine(ur ?_).1.symm;unfold dS;cases hb:v9 (aL L i)with
  |false=>rfl
  |true=>
   exfalso
   have hk:=((uQ _).1 hb).1;by_cases hr:i<0\/(L.length:Int)<=i
   ·rw[Lc hr]at hk;simp[free]at hk
   ·rw[fG (by omega) (by omega)]at hk
    omega
 ·simp only[Bool.or_eq_false_iff,Bool.not_eq_false',aaW,decide_eq_false_iff_not]at h;have hr:0<=i/\i<(L.length:Int):=by omega
  have hg:aL L i=aj L i.toNat free:=fG hr.1 hr.2;have e:=yg (aj L i.toNat free);rw[show decide ((aj L i.toNat free).kind=1)=true from decide_eq_true h.2,Bool.not_true,Bool.false_or]at e;rw[e];refine⟨hr,by omega,fun h'=>?_,fun h'=>?_⟩
  ·exact(ur (by unfold dS;rw[hg];simpa using h')).1.symm
  ·rw[(mG (by unfold dS;rw[hg];simpa using h')).1,hg]
theorem vM:cz Tryz.prog 53 VI:=
 eQ (aA jC U5) (fun _=>rfl) fun a hq hok=>by
  obtain⟨L,i,_⟩:=a;exact bc (inl:=bx) (ann:=aQ) ar (S0 L i) (by kernel_rfl)
theorem Rt (i:Int):
 true=true/\aba (!decide ((aL [] i).kind=1)|| !decide (((aL [] i).slots.at 2).kind=1)||decide (((aL [] i).slots.at 2).value<0)||decide (2<((aL [] i).slots.at 2).value)) (0=iG [] i/\false=dS [] i) (((aL [] i).slots.at 2).value=iG [] i/\true=dS [] i):=by
 delta aba
 have e:=yg (aL [] i);rw[e];refine⟨rfl,fun h=>?_,fun h=>?_⟩
 ·have h:dS [] i=false:=by unfold dS;simpa using h
  exact⟨(ur h).2.symm,h.symm⟩
 ·have h:dS [] i=true:=by unfold dS;simpa using h
  exact⟨(mG h).2.symm,h.symm⟩
theorem Yg (L:List Sx.Obj) (i:Int):
 true=true/\aba (!decide ((aL L i).kind=1)|| !decide (((aL L i).slots.at 2).kind=1)||decide (((aL L i).slots.at 2).value<0)||decide (2<((aL L i).slots.at 2).value)) (0=iG L i/\false=dS L i) (((aL L i).slots.at 2).value=iG L i/\true=dS L i):=by
 delta aba
 have e:=yg (aL L i);rw[e];refine⟨rfl,fun h=>?_,fun h=>?_⟩
 ·have h:dS L i=false:=by unfold dS;simpa using h
  exact⟨(ur h).2.symm,h.symm⟩
 ·have h:dS L i=true:=by unfold dS;simpa using h
  exact⟨(mG h).2.symm,h.symm⟩
theorem rR:cz Tryz.prog 62 aar:=
 eQ (aA tk U5) (fun _=>rfl) fun a hq hok=>by
  obtain⟨S,i,_⟩:=a;cases S with
  |none=>exact bc (inl:=(fun f=>f==88)) (ann:=aQ) (ae fY ar) (Rt i) (by kernel_rfl)
  |some L=>exact bc (inl:=(fun f=>f==88)) (ann:=aQ) (ae fY ar) (Yg L i) (by kernel_rfl)
theorem Sv (L:List Sx.Obj) (i st:Int) (hL:aq L):
 aba (decide (bQ (ai L)=0)) (ku L i st=false/\1=er L i st) (((!(decide (i<0)||decide (bQ (ai L)<=i)))=true->0<=i/\i< ↑(ai L))/\((!(decide (i<0)||decide (bQ (ai L)<=i)))=true->i.toNat<ai L)/\aba (decide (i<0)||decide (bQ (ai L)<=i)|| !decide ((aj L i.toNat free).kind=1)) (ku L i st=false/\230=er L i st) (aba (decide (st<0)||decide (2<st)) (ku L i st=false/\2=er L i st) ((0<=i/\i< ↑(ai L))/\i.toNat<ai L/\true=true/\dO L i/\ku L i st=true/\0=er L i st/\b6 L i.toNat (Obj.mk (aj L i.toNat free).kind (aj L i.toNat free).count (aj L i.toNat free).calls ((aj L i.toNat free).slots.put 2 (abg st)) (aj L i.toNat free).bytes)=dg L i st))):=by
 delta aba abg
 have hn:bQ (ai L)=(L.length:Int):=rfl;have hlL:ai L=L.length:=rfl
 have hin:(!(decide (i<0)||decide (bQ (ai L)<=i)))=true->0<=i/\i<(L.length:Int):=fun h=>by
  rw[hn]at h;simp only[Bool.not_eq_true',Bool.or_eq_false_iff,decide_eq_false_iff_not]at h;omega
 refine⟨fun h=>?_,fun h=>⟨fun h=>hin h,fun h=>by have:=hin h;omega,fun h2=>?_,fun h2=>⟨fun h3=>?_,fun h3=>?_⟩⟩⟩
 ·have hl:ai L=0:=by have h1:bQ (ai L)=0:=aaZ h;unfold bQ at h1;omega
  unfold ku;rw[Vr hl];exact⟨rfl,rfl⟩
 ·have hl:ai L≠0:=by have h1:¬bQ (ai L)=0:=aaY h;unfold bQ at h1;omega
  unfold ku;rw[H4 hl (TA h2)];exact⟨rfl,rfl⟩
 ·have hl:ai L≠0:=by have h1:¬bQ (ai L)=0:=aaY h;unfold bQ at h1;omega
  unfold ku;rw[Vl hl (DL h2).2.2.2 (by simpa using h3)];exact⟨rfl,rfl⟩
 ·have hl:ai L≠0:=by have h1:¬bQ (ai L)=0:=aaY h;unfold bQ at h1;omega
  obtain⟨a,b,c,d⟩:=DL h2;have hE:=LD (st:=st) hl d (by simpa using h3)
  refine⟨⟨a,b⟩,by omega,rfl,sY hL a b,by unfold ku;rw[hE];rfl,hE.symm,?_⟩
  unfold dg;rw[aa2 hE,c];rfl
theorem Uz (L:List Sx.Obj) (i st:Int) (hL:aq L):an Tryz.prog 55 [.sa 0,.it .i64 i,.it .i64 st] [.ro (.arr none 163 (.ob L))] (yA (ku L i st) (dg L i st) [.it .i64 (er L i st)]) (fun _ _=>False):=
 bm (inl:=(fun f=>f==31)) (ann:=aQ) (ae jG ar) aE (Sv L i st hL) (by kernel_rfl)
theorem Io:lh Tryz.prog 55 VH:=
 iP (m:=fun x=>Z7.cn x 0) (fP OV (fun _=>rfl)) (fun _=>rfl) (fun _ _=>rfl) fun L x hq=>Uz L x.1 x.2.1 hq
theorem Uq (i st:Int):
 abb (aba (!decide (0<ak [])) (1=er [] i st) (abb (aba (!decide ((aL [] i).kind=1)) (230=er [] i st) (abb (aba (!(decide (0<=st)&&decide (st<=2))) (2=er [] i st) (abb (abb (gi [] i (Obj.mk (aL [] i).kind (aL [] i).count (aL [] i).calls ((aL [] i).slots.put 2 (abg st)) (aL [] i).bytes)=er [] i st)))))))):=by
 delta aba abg abb
 exact⟨rfl,fun h=>rfl,fun h=>absurd h (by decide)⟩
theorem TP (i st:Int):
 abb (aba (!decide (0<ak [])) (1=er [] i st) (abb (aba (!decide ((aL [] i).kind=1)) (230=er [] i st) (abb (aba (!(decide (0<=st)&&decide (st<=2))) (2=er [] i st) (abb (abb False))))))):=by
 delta aba abb
 exact⟨rfl,fun h=>rfl,fun h=>absurd h (by decide)⟩
abbrev aby(L:List Sx.Obj)(i:Int)(st:Int):=Obj.mk (aL L i).kind (aL L i).count (aL L i).calls ((aL L i).slots.put 2 (abg st)) (aL L i).bytes
theorem Yf (L:List Sx.Obj) (i st:Int) (hL:aq L):
 abb (aba (!decide (0<ak L)) (1=er L i st/\L=dg L i st) (abb (aba (!decide ((aL L i).kind=1)) (230=er L i st/\L=dg L i st) (abb (aba (!(decide (0<=st)&&decide (st<=2))) (2=er L i st/\L=dg L i st) (abb (abb (gi L i (aby L i st)=er L i st/\cK L i (aby L i st)=dg L i st)))))))):=by
 delta aba abg aby abb
 have hq:∀b,(!decide (0<ak L))=b->(b=true->ai L=0)/\(b=false->ai L≠0):=fun b hb=>by
  subst hb;refine⟨fun h=>?_,fun h=>?_⟩
  ·have h1:¬0<ak L:=by simpa using h
   unfold ak at h1;omega
  ·have h1:0<ak L:=by simpa using h
   unfold ak at h1;omega
 refine⟨rfl,fun h=>GI (Vr ((hq _ h).1 rfl)) (by omega),fun h=>⟨rfl,fun h2=>?_,fun h2=>⟨rfl,fun h3=>?_,fun h3=>⟨rfl,rfl,?_⟩⟩⟩⟩
 ·exact GI (H4 ((hq _ h).2 rfl) (by simpa using h2)) (by omega)
 ·exact GI (Vl ((hq _ h).2 rfl) (by simpa using h2) (by simp only[Bool.not_eq_true',Bool.and_eq_false_iff,decide_eq_false_iff_not]at h3;omega)) (by omega)
 ·have hE:er L i st=0:=LD ((hq _ h).2 rfl) (by simpa using h2) (by simp only[Bool.not_eq_false',aaV,aaW]at h3;omega)
  rw[hE];exact Oa hL hE
theorem WK (L:List Sx.Obj) (i st:Int) (hL:aq L):an Tryz.prog 64 [.lp 0 0,.it .i64 i,.it .i64 st] [.store tS eS L] (CA (.it .i64 (er L i st)) (dg L i st)) (fun _ _=>False):=
 aY (inl:=(fun f=>f==91||f==98)) (ann:=aQ) (ae bC (ae fY ar)) (aC dB aE) (eg lB) (Yf L i st hL) (by kernel_rfl)
theorem MO:lh Tryz.prog 64 ZK:=
 od (m:=fun x=>Z7.cn x 0) (fP OV (fun _=>rfl)) (fun _=>rfl) (fun _ _=>rfl) (fun x=>aY (inl:=(fun f=>f==91||f==98)) (ann:=aQ) (ae bC (ae fY ar)) (aC dB aE) (eg lB) (Uq x.1 x.2.1) (by kernel_rfl)) (fun x=>aY (inl:=(fun f=>f==91||f==98)) (ann:=aQ) (ae bC (ae fY ar)) (aC dB aE) (eg lB) (TP x.1 x.2.1) (by kernel_rfl)) fun L x hL _ _=>WK L x.1 x.2.1 hL
abbrev abz(nid:Nat):=V.tp [V.sa nid,V.ci IntKind.i64 0]
theorem Mw (L:List Sx.Obj) (i st:Int) (hz:IK L i st):
 aba (decide (bQ (ai L)=0)) (abb (∀(nid:Nat),some (V.tp [V.sa nid,V.ci IntKind.i64 1])=some (abz nid)/\none=some [aK.arr (some tO) 163 (TL.ob (dg L i st))])) (((!(decide (i<0)||decide (bQ (ai L)<=i)))=true->0<=i/\i< ↑(ai L))/\((!(decide (i<0)||decide (bQ (ai L)<=i)))=true->i.toNat<ai L)/\aba (decide (i<0)||decide (bQ (ai L)<=i)|| !decide ((aj L i.toNat free).kind=1)) (abb (∀(nid:Nat),some (V.tp [V.sa nid,V.ci IntKind.i64 230])=some (abz nid)/\none=some [aK.arr (some tO) 163 (TL.ob (dg L i st))])) (aba (decide (st<0)||decide (2<st)) (abb (∀(nid:Nat),some (V.tp [V.sa nid,V.ci IntKind.i64 2])=some (abz nid)/\none=some [aK.arr (some tO) 163 (TL.ob (dg L i st))])) ((0<=i/\i< ↑(ai L))/\i.toNat<ai L/\abb (dO L i/\abb (∀(nid:Nat),some (abz nid)=some (abz nid)/\some [aK.arr (some tO) 163 (TL.ob (b6 L i.toNat (Obj.mk (aj L i.toNat free).kind (aj L i.toNat free).count (aj L i.toNat free).calls ((aj L i.toNat free).slots.put 2 (abg st)) (aj L i.toNat free).bytes)))]=some [aK.arr (some tO) 163 (TL.ob (dg L i st))]))))):=by
 delta aba abg abz abb
 obtain⟨hE,hL⟩:=hz;obtain⟨⟨a,b⟩,c,d,s0,s1⟩:=O5 hE;have hl:ai L≠0:=by unfold ai;omega
 have hn:bQ (ai L)=(L.length:Int):=rfl;have hlL:ai L=L.length:=rfl;rw[decide_eq_false (by unfold bQ;omega:¬bQ (ai L)=0),decide_eq_false (by omega:¬i<0),decide_eq_false (by rw[hn];omega:¬bQ (ai L)<=i),decide_eq_true d,decide_eq_false (by omega:¬st<0),decide_eq_false (by omega:¬2<st)]
 refine⟨fun h=>by simp at h,fun _=>⟨fun _=>⟨a,b⟩,fun _=>by omega,fun h=>by simp at h,fun _=>⟨fun h=>by simp at h,fun _=>⟨⟨a,b⟩,by omega,rfl,sY hL a b,rfl,fun nid=>⟨rfl,?_⟩⟩⟩⟩⟩
 unfold dg;rw[aa2 hE,c];rfl
theorem Qx (L:List Sx.Obj) (i st:Int) (hz:IK L i st):an Tryz.prog 55 [.sa 0,.it .i64 i,.it .i64 st] [.ro (.arr none 163 (.ob L))] (Dh true ke (fun n=> .tp [.sa n,.ci .i64 0]) (.arr (some tO) 163 (.ob (dg L i st)))) (fun _ _=>False):=
 bm (inl:=(fun f=>f==31)) (ann:=aQ) (ae jG ar) aE (Mw L i st hz) (by kernel_rfl)
theorem Lf:lh Tryz.prog 55 SB:=
 Cq Wq (fun _=>rfl) (fun _=>by simp) fun a hq hok=>by
  obtain⟨L,i,st,_⟩:=a;exact Qx L i st hq
theorem Uc (L:List Sx.Obj) (m:bp) (hs:aw m.data):
 aF IntKind.i64 (bO m.data)/\(decide (bO m.data<=32)&&bJ L m.k0&&bJ L m.k1&&bJ L m.k2)=fk L m:=by
 have hsz:aF IntKind.i64 (bO m.data):=by unfold aw at hs;simp only[aF,cc,bO];omega
 exact⟨hsz,rfl⟩
theorem Dp:cz Tryz.prog 74 Xj:=
 eQ (aA jC (aA zY bV)) (fun _=>rfl) fun a hq hok=>by
  obtain⟨L,m,_⟩:=a;exact bc (inl:=bx) (ann:=(iJ [(74,3,Ml 4)])) (ae yV ar) (Uc L m hq) (by kernel_rfl)
theorem Sb (L:List Sx.Obj) (m:bp):
 m.code=(aH L m).code/\m.data=(aH L m).data/\ah L m.k0=(aH L m).k0/\ah L m.k1=(aH L m).k1/\ah L m.k2=(aH L m).k2:=by
 exact⟨rfl,rfl,rfl,rfl,rfl⟩
theorem Cm:cz Tryz.prog 75 X0:=
 eQ (aA jC (aA zY bV)) (fun _=>rfl) fun a hq hok=>by
  obtain⟨L,m,_⟩:=a;exact bc (inl:=bx) (ann:=(iJ [(75,2,Ml 4)])) (ae pL ar) (Sb L m) (by kernel_rfl)
theorem KK (L:List Sx.Obj) (i:Int) (m:bp) (k:Key) (hz:A4 L i m):
 (0<=i/\i< ↑(ai L))/\i.toNat<ai L/\abb (abb (abd (bO m.data)/\aF IntKind.u8 (bO m.data)/\(∃g,ry m.data g/\i=i/\Value.slice none 0 0=Value.slice none 0 0/\0=g/\L=L/\m.code=m.code/\m.data=m.data/\m.k0=m.k0/\m.k1=m.k1/\m.k2=m.k2/\k=k/\Obj.mk (aj L i.toNat free).kind (aj L i.toNat free).count (aj L i.toNat free).calls (((((((aj L i.toNat free).slots.put 2 (abg 1)).put 3 (abg m.code)).put 12 m.k0).put 13 m.k1).put 14 m.k2).put 15 k) (e9.put 0 (Vf (bO m.data)))=r9 L i m k g/\abg 1=abg 1/\abg m.code=abg m.code)/\∀(g:Int),ry m.data g->abd (bO m.data)/\aba (decide (g<bO m.data)) (abd (1+g)/\pSz m.data g/\(0<=1+g/\1+g< ↑64)/\abd (g+1)/\∃g',ry m.data g'/\xc m.data g'<xc m.data g/\i=i/\Value.slice none 0 0=Value.slice none 0 0/\g+1=g'/\L=L/\m.code=m.code/\m.data=m.data/\m.k0=m.k0/\m.k1=m.k1/\m.k2=m.k2/\k=k/\Obj.mk (r9 L i m k g).kind (r9 L i m k g).count (r9 L i m k g).calls (r9 L i m k g).slots ((r9 L i m k g).bytes.put (1+g).toNat (sat m.data g.toNat))=r9 L i m k g'/\abg 1=abg 1/\abg m.code=abg m.code) (dO L i/\abb (∀(nid:Nat),some (V.sa nid)=some (V.sa nid)/\some [aK.arr (some tO) 163 (TL.ob (b6 L i.toNat (r9 L i m k g)))]=some [aK.arr (some tO) 163 (TL.ob (rP L i m k))])))):=by
 delta aba abg abd abb
 obtain⟨hp,⟨i0,i1⟩,hs⟩:=hz;have i1':i.toNat<ai L:=by omega
 have hsz:aF IntKind.i64 (bO m.data):=by simp only[aF,cc,bO]at *;omega
 have hs8:aF IntKind.u8 (bO m.data):=by simp only[aF,cc,bO]at *;omega
 have hz:(m.data.size:Int)<=32:=hs;simp only[kH,jy,mN,iZ,decide_true,Bool.and_true,Bool.not_true,Bool.or_false,Bool.not_false,Bool.false_eq_true,Bool.true_eq_false,false_implies,implies_true,true_implies,true_and,and_true,and_self];refine⟨⟨i0,i1⟩,i1',hsz,hs8,⟨0,⟨by omega,by omega⟩,rfl,?_⟩,fun g hg=>⟨hsz,fun hlt=>?_,fun hge=>?_⟩⟩
 ·unfold r9 Br Bm;rw[show(0:Int).toNat=0 from rfl,Bz];rfl
 ·obtain⟨g0,g1⟩:=hg;have hlt:g<(m.data.size:Int):=aaZ hlt;refine⟨by simp only[aF,cc];omega,⟨g0,hlt⟩,⟨by omega,by omega⟩,by simp only[aF,cc];omega,g+1,⟨by omega,by omega⟩,by unfold xc;omega,rfl,?_⟩
  have e:=Bq (e9.put 0 (UInt8.ofNat m.data.size)) 1 g.toNat m.data (by omega)
  unfold r9 Bm;simp only;rw[show(1+g).toNat=1+g.toNat by omega,e,show(g+1).toNat=g.toNat+1 by omega]
 ·obtain⟨g0,g1⟩:=hg;have hge:¬g<(m.data.size:Int):=aaY hge;have:g=bO m.data:=by unfold bO;omega
  subst this;exact⟨hp,fun nid=>rfl⟩
theorem KV (L:List Sx.Obj) (i:Int) (m:bp) (k:Key) (hz:A4 L i m):an Tryz.prog 77 [.sa 0,.it .i64 i,jJ m,.key k] [.ro (.arr none 163 (.ob L))] (Dh true ke (fun n=> .sa n) (.arr (some tO) 163 (.ob (rP L i m k)))) (fun _ _=>False):=
 bm (inl:=(fun f=>f==31)) (ann:=(iJ [(77,7,YN [0,1,6,7,8,9] (fun g=> [(10,.it .i64 g)]) 9 (fun g=> .blk tO (.ob (r9 L i m k g))) (ry m.data) (xc m.data))])) (ae jG ar) aE (KK L i m k hz) (by kernel_rfl)
theorem DV:lh Tryz.prog 77 Tv:=
 Cq WB (fun _=>rfl) (fun _=>by simp) fun a hq hok=>by
  obtain⟨L,i,m,k,_⟩:=a;exact KV L i m k hq
theorem SG (L:List Sx.Obj) (i:Int) (k:Key) (md:Int) (m:bp) (hL:aq L) (hs:aw m.data):
 aba (decide (bQ (ai L)=0)) (lR L i k md m=false/\1=b9 L i k md m) (((!(decide (md<1)||decide (3<md)|| !bJ L k))=true->aw m.data)/\aba (decide (md<1)||decide (3<md)|| !bJ L k|| !fk L m) (lR L i k md m=false/\2=b9 L i k md m) (aba (!decide (bw L i=1)) (lR L i k md m=false/\230=b9 L i k md m) (aba (!aU L k|| !decide (k.kind=6)&& !decide (k.kind=7)) (lR L i k md m=false/\231=b9 L i k md m) (aba (decide (bw L k.oid<0)) (lR L i k md m=false/\231=b9 L i k md m) (aba (decide (k.kind=6)&& !decide (bw L k.oid=0)&& !(decide (md=3)&&decide (k.oid=i))||decide (k.kind=7)&& !decide (bw L k.oid=2)) (lR L i k md m=false/\232=b9 L i k md m) ((decide (k.kind=7)=true->0<=k.oid/\k.oid< ↑(ai L))/\(decide (k.kind=7)=true->k.oid.toNat<ai L)/\((decide (md=1)&& !(decide (k.kind=7)&&decide (4294967295<=(aj L k.oid.toNat free).calls)))=true->0<=i/\i< ↑(ai L))/\((decide (md=1)&& !(decide (k.kind=7)&&decide (4294967295<=(aj L k.oid.toNat free).calls)))=true->i.toNat<ai L)/\aba (decide (k.kind=7)&&decide (4294967295<=(aj L k.oid.toNat free).calls)||decide (md=1)&&decide (4294967295<=(aj L i.toNat free).calls)) (lR L i k md m=false/\233=b9 L i k md m) ((aba (decide (md=1)) ((0<=i/\i< ↑(ai L))/\i.toNat<ai L/\(0<=i/\i< ↑(ai L))/\i.toNat<ai L/\∃g:Unit,n9 L i k md m/\i=i/\md=md/\Value.slice none 0 0=Value.slice none 0 0/\k.kind=k.kind/\L=L/\k=k/\(aH L m).code=(aH L m).code/\(aH L m).data=(aH L m).data/\(aH L m).k0=(aH L m).k0/\(aH L m).k1=(aH L m).k1/\(aH L m).k2=(aH L m).k2/\Key.mk 7 i (aj L i.toNat free).count (aj L i.toNat free).calls void.rights void.value=iO L i md) (∃g:Unit,n9 L i k md m/\i=i/\md=md/\Value.slice none 0 0=Value.slice none 0 0/\k.kind=k.kind/\L=L/\k=k/\(aH L m).code=(aH L m).code/\(aH L m).data=(aH L m).data/\(aH L m).k0=(aH L m).k0/\(aH L m).k1=(aH L m).k1/\(aH L m).k2=(aH L m).k2/\void=iO L i md))/\∀(g:Unit),n9 L i k md m->(0<=md/\md< ↑4)/\abb (IK L i (aj [0,2,1,0] md.toNat 0)/\(true=false->False)/\(true=true->aba (decide (k.kind=7)) ((0<=k.oid/\k.oid< ↑(ai (dg L i (aj [0,2,1,0] md.toNat 0))))/\k.oid.toNat<ai (dg L i (aj [0,2,1,0] md.toNat 0))/\aF IntKind.i64 ((aj (dg L i (aj [0,2,1,0] md.toNat 0)) k.oid.toNat free).calls+1)/\dO (dg L i (aj [0,2,1,0] md.toNat 0)) k.oid/\abb (A4 (b6 (dg L i (aj [0,2,1,0] md.toNat 0)) k.oid.toNat (Obj.mk (aj (dg L i (aj [0,2,1,0] md.toNat 0)) k.oid.toNat free).kind (aj (dg L i (aj [0,2,1,0] md.toNat 0)) k.oid.toNat free).count ((aj (dg L i (aj [0,2,1,0] md.toNat 0)) k.oid.toNat free).calls+1) (aj (dg L i (aj [0,2,1,0] md.toNat 0)) k.oid.toNat free).slots (aj (dg L i (aj [0,2,1,0] md.toNat 0)) k.oid.toNat free).bytes)) k.oid (aH L m)/\(true=false->False)/\(true=true->lR L i k md m=true/\0=b9 L i k md m/\rP (b6 (dg L i (aj [0,2,1,0] md.toNat 0)) k.oid.toNat (Obj.mk (aj (dg L i (aj [0,2,1,0] md.toNat 0)) k.oid.toNat free).kind (aj (dg L i (aj [0,2,1,0] md.toNat 0)) k.oid.toNat free).count ((aj (dg L i (aj [0,2,1,0] md.toNat 0)) k.oid.toNat free).calls+1) (aj (dg L i (aj [0,2,1,0] md.toNat 0)) k.oid.toNat free).slots (aj (dg L i (aj [0,2,1,0] md.toNat 0)) k.oid.toNat free).bytes)) k.oid (aH L m) (iO L i md)=fe L i k md m))) (abb (A4 (dg L i (aj [0,2,1,0] md.toNat 0)) k.oid (aH L m)/\(true=false->False)/\(true=true->lR L i k md m=true/\0=b9 L i k md m/\rP (dg L i (aj [0,2,1,0] md.toNat 0)) k.oid (aH L m) (iO L i md)=fe L i k md m)))))))))))):=by
 delta aba abb
 simp only[kH,jy,mN,iZ,decide_true,Bool.and_true,Bool.not_true,Bool.or_false,Bool.not_false,Bool.false_eq_true,Bool.true_eq_false,false_implies,implies_true,true_implies,true_and,and_true,and_self];refine⟨fun h=>?_,fun h=>⟨fun _=>hs,fun h2=>?_,fun h2=>⟨fun h3=>?_,fun h3=>⟨fun h4=>?_,fun h4=>⟨fun h5=>?_,fun h5=>⟨fun h6=>?_,fun h6=>?_⟩⟩⟩⟩⟩⟩
 ·have hl:ai L=0:=by have h1:bQ (ai L)=0:=aaZ h;unfold bQ at h1;omega
  exact tY (Yq hl) (by omega)
 all_goals
  have hl:ai L≠0:=by have h1:¬bQ (ai L)=0:=aaY h;unfold bQ at h1;omega
 ·exact tY (DK hl (Vy.1 h2)) (by omega)
 all_goals
  have b:¬(¬(1<=md/\md<=3)\/bJ L k=false\/fk L m=false):=fun hh=>by rw[Vy.2 hh]at h2;simp at h2
 ·exact tY (G2 hl b (by simpa using h3)) (by omega)
 all_goals
  have c:bw L i=1:=by simpa using h3
 ·exact tY (Ay hl b c ((Vx.1 h4).imp id .inl)) (by omega)
 all_goals
  have d1:¬(aU L k=false\/¬(k.kind=6\/k.kind=7)):=fun hh=>by rw[Vx.2 hh]at h4;simp at h4
 ·exact tY (Ay hl b c (.inr (.inr (aaZ h5)))) (by omega)
 all_goals
  have d:¬(aU L k=false\/¬(k.kind=6\/k.kind=7)\/bw L k.oid<0):=by
   rintro(h|h|h)
   ·exact d1 (.inl h)
   ·exact d1 (.inr h)
   ·exact aaY h5 h
 ·exact tY (CS hl b c d (Vi.1 h6)) (by omega)
 have e:¬((k.kind=6/\bw L k.oid≠0/\¬(md=3/\k.oid=i))\/(k.kind=7/\bw L k.oid≠2)):=fun hh=>by rw[Vi.2 hh]at h6;simp at h6
 have b1:1<=md/\md<=3:=by
  by_cases h:1<=md/\md<=3
  ·exact h
  ·exact absurd (.inl h) b
 have d3:0<=bw L k.oid:=by
  by_cases h:bw L k.oid<0
  ·exact absurd (.inr (.inr h)) d
  ·omega
 obtain⟨i0,i1,i2,i3⟩:=o7 (qM.1.1 (by omega:0<=bw L i))
 obtain⟨k0,k1,k2,k3⟩:=o7 (qM.1.1 d3);have hlL:ai L=L.length:=rfl;have hk:(0<=k.oid/\k.oid<(ai L:Int))/\k.oid.toNat<ai L:=by omega
 have hi:(0<=i/\i<(ai L:Int))/\i.toNat<ai L:=by omega
 refine⟨fun _=>hk.1,fun _=>hk.2,fun _=>hi.1,fun _=>hi.2,fun h7=>tY (CY hl b c d e (Vs.1 h7)) (by omega),fun h7=>?_⟩
 have hE:b9 L i k md m=0:=Zc hl b c d e fun hh=>by rw[Vs.2 hh]at h7;simp at h7
 obtain⟨_,_,⟨hb,hb1⟩,⟨o1,l1⟩,⟨o2,l2⟩,⟨g1,g1c⟩,g2,hsz,hA⟩:=Af hL hE;obtain⟨n0,n1,n2,n3⟩:=Gk b1;obtain⟨_,_,hend⟩:=Gq hL hE;have hC:lR L i k md m=true:=by unfold lR;rw[hE];rfl
 have hq:fe L i k md m=rP (h9 L i k md) k.oid (aH L m) (iO L i md):=by unfold fe;rw[aa2 hE]
 rw[n2,hb1,hC,hE,hq];have hl1:ai (gS L i md)=L.length:=l1;have hl2:ai (h9 L i k md)=L.length:=l2;refine⟨⟨fun h1=>⟨hi.1,hi.2,hi.1,hi.2,⟨⟩,hE,?_⟩,fun h1=>⟨⟨⟩,hE,?_⟩⟩,fun _ _=>⟨by omega,⟨hb,hL⟩,fun h7=>?_,fun h7=>?_⟩⟩
 ·unfold iO;rw[aa2 (aaZ h1)];rfl
 ·unfold iO;rw[aa1 (aaY h1)]
 ·have h7':=aaZ h7;have hc:h9 L i k md=b6 (gS L i md) k.oid.toNat (OX (aj (gS L i md) k.oid.toNat free)):=by unfold h9;rw[aa2 h7']
  have ho:=fo.1 (dt o1 k.oid.toNat (by omega))
  refine⟨by omega,by omega,by have:=ho.2.2.2.2.2.2.1;have:=ho.2.2.2.2.2.2.2.1;simp only[aF,cc];omega,sY o1 k0 (by omega),?_,?_⟩
  ·have:=sY o2 k0 (by omega)
   rw[hc]at this;exact⟨this,⟨k0,by rw[show∀x,ai (b6 (gS L i md) k.oid.toNat x)=L.length from fun x=>by unfold ai;rw[iy,l1]];omega⟩,hsz⟩
  ·rw[hc];exact⟨rfl,rfl,rfl⟩
 ·have h7':=aaY h7;have hc:h9 L i k md=gS L i md:=by unfold h9;rw[aa1 h7']
  rw[hc]at *;exact⟨⟨sY o1 k0 (by omega),by omega,hsz⟩,rfl,rfl,rfl⟩
theorem T9 (L:List Sx.Obj) (i:Int) (k:Key) (md:Int) (m:bp) (hL:aq L) (hs:aw m.data):an Tryz.prog 51 [.sa 0,.it .i64 i,.key k,.it .i64 md,jJ m] [.ro (.arr none 163 (.ob L))] (yA (lR L i k md m) (fe L i k md m) [.it .i64 (b9 L i k md m)]) (fun _ _=>False):=
 bm (inl:=bx) (ann:=(iJ [(51,2000021,En [0,1,3,7,9,10,11,12,14] (fun(_:Unit)=> []) (fun _=> [(14,.blk tK (.key (iO L i md)))]) (fun _=> []) (fun _=>n9 L i k md m))])) (ae yV (ae Dp (ae Cm (ae vM (ae mf (ae jG ar)))))) (aC Lf (aC DV aE)) (SG L i k md m hL hs) (by kernel_rfl)
theorem Ts:lh Tryz.prog 51 Vz:=
 iP (m:=fun x=>ivB.cn x 0) (fP K8 (fun _=>rfl)) (fun _=>rfl) (fun _ _=>rfl) fun L x hq=>T9 L x.1 x.2.1 x.2.2.1 x.2.2.2.1 hq.1 hq.2
theorem T7 (L:List Sx.Obj) (i:Int) (m:bp) (hL:aq L) (hs:aw m.data):
 aba (decide (bQ (ai L)=0)) (pM L i m=false/\1=gf L i m) (aw m.data/\aba (!fk L m) (pM L i m=false/\2=gf L i m) (aba (!decide (bw L i=1)) (pM L i m=false/\230=gf L i m) (true=true/\A4 L i (aH L m)/\(true=false->False)/\(true=true->pM L i m=true/\0=gf L i m/\rP L i (aH L m) void=gx L i m)))):=by
 delta aba
 have no:∀e,gf L i m=e->e≠0->pM L i m=false/\e=gf L i m:=fun e h he=>⟨by unfold pM;rw[h];simpa using he,h.symm⟩
 simp only[kH,jy,mN,iZ,decide_true,Bool.and_true,Bool.not_true,Bool.or_false,Bool.not_false,Bool.false_eq_true,Bool.true_eq_false,false_implies,implies_true,true_implies,true_and,and_true,and_self];refine⟨fun h=>no _ ?_ (by omega),fun h=>⟨hs,fun h2=>no _ ?_ (by omega),fun h2=>⟨fun h3=>no _ ?_ (by omega),fun h3=>?_⟩⟩⟩
 ·have hl:ai L=0:=by have h1:bQ (ai L)=0:=aaZ h;unfold bQ at h1;omega
  unfold gf;rw[aa2 hl]
 ·have hl:ai L≠0:=by have h1:¬bQ (ai L)=0:=aaY h;unfold bQ at h1;omega
  unfold gf;rw[aa1 hl,aa2 (by simpa using h2)]
 ·have hl:ai L≠0:=by have h1:¬bQ (ai L)=0:=aaY h;unfold bQ at h1;omega
  unfold gf;rw[aa1 hl,aa1 (by simpa using h2),aa2 (by simpa using h3)]
 ·have hl:ai L≠0:=by have h1:¬bQ (ai L)=0:=aaY h;unfold bQ at h1;omega
  have h2':fk L m=true:=by simpa using h2
  have h3':bw L i=1:=by simpa using h3
  have hE:gf L i m=0:=by unfold gf;rw[aa1 hl,aa1 (by simpa using h2'),aa1 (by simpa using h3')]
  obtain⟨a,b,c,d⟩:=o7 (qM.1.1 (by omega:0<=bw L i))
  refine⟨⟨sY hL a b,⟨a,b⟩,(CQ h2':bO m.data<=32)⟩,by unfold pM;rw[hE];rfl,hE.symm,?_⟩
  unfold gx;rw[aa2 hE]
theorem TH (L:List Sx.Obj) (i:Int) (m:bp) (hL:aq L) (hs:aw m.data):an Tryz.prog 54 [.sa 0,.it .i64 i,jJ m] [.ro (.arr none 163 (.ob L))] (yA (pM L i m) (gx L i m) [.it .i64 (gf L i m)]) (fun _ _=>False):=
 bm (inl:=bx) (ann:=aQ) (ae Dp (ae Cm (ae vM ar))) (aC DV aE) (T7 L i m hL hs) (by kernel_rfl)
theorem T5:lh Tryz.prog 54 Xg:=
 iP (m:=fun x=>anB.cn x 0) (fP NB (fun _=>rfl)) (fun _=>rfl) (fun _ _=>rfl) fun L x hq=>TH L x.1 x.2.1 hq.1 hq.2
theorem JY:
 ∀(nid:Nat),some (V.mp nid)=some (V.mp nid)/\some [aK.mp IntKind.i64 [6,7] [V.fn 126 [],V.fn 127 []]]=some [aK.mp IntKind.i64
  [6,7] [V.fn 126 [],V.fn 127 []]]:=by
 exact fun nid=>⟨rfl,rfl⟩
theorem wm:cz Tryz.prog 95 (A9 kdX kdN):=vq (π:= [0]) (by decide) (fun _=>rfl) (bm (inl:=bx) (ann:=aQ) ar aE JY (by kernel_rfl))
theorem sE:cz Tryz.prog 36 F8:=UL bC
theorem To (i:Int) (m:bp) (hs:aw m.data):
 true=true/\1=gf [] i m:=by
 exact⟨rfl,rfl⟩
theorem UK (i:Int) (m:bp) (hs:aw m.data):
 true=true/\1=gf [] i m:=by
 exact⟨rfl,rfl⟩
theorem Wh (L:List Sx.Obj) (i:Int) (m:bp) (hL:aq L) (hs:aw m.data):
 abb (aba (!decide (0<ak L)) (1=gf L i m/\L=gx L i m) (abb (abd (bO m.data)/\abb (aba (!decide (bO m.data<=32)) (2=gf L i m/\L=gx L i m) (abb (abb (aba (!(decide (bB m.k0=0)&&(!aZ m.k0||decide (cy m.k0<ak L)))) (2=gf L i m/\L=gx L i m) (abb (abb (aba (!(decide (bB m.k1=0)&&(!aZ m.k1||decide (cy m.k1<ak L)))) (2=gf L i m/\L=gx L i m) (abb (abb (aba (!(decide (bB m.k2=0)&&(!aZ m.k2||decide (cy m.k2<ak L)))) (2=gf L i m/\L=gx L i m) (abb (aba (!(dS L i&&decide (iG L i=1))) (230=gf L i m/\L=gx L i m) (abb (abb (abb (abb (abb (abd (bO m.data)/\aF IntKind.u8 (bO m.data)/\CU 1 64 64/\abb (0=gf L i m/\cK L i (Obj.mk (aL L i).kind (aL L i).count (aL L i).calls (((((((aL L i).slots.put 2 (abg 1)).put 3 (abg m.code)).put 12 (ah L m.k0)).put 13 (ah L m.k1)).put 14 (ah L m.k2)).put 15 void) (KB (e9.put 0 (Vf (bO m.data))) (Int.toNat 1) (Int.toNat 64) m.data))=gx L i m)))))))))))))))))))))):=by
 delta aba abg abd abb
 have no:∀e,gf L i m=e->e≠0->e=gf L i m/\L=gx L i m:=fun e h he=>⟨h.symm,by unfold gx;rw[h,aa1 he]⟩
 have hq1:(!decide (0<ak L))=true->ai L=0:=fun h=>by
  have h1:¬0<ak L:=by simpa using h
  unfold ak at h1;omega
 have hq0:(!decide (0<ak L))=false->ai L≠0:=fun h=>by
  have h1:0<ak L:=by simpa using h
  unfold ak at h1;omega
 have hsz:aF IntKind.i64 (bO m.data):=by unfold aw at hs;simp only[aF,cc,bO];omega
 have hs8:bO m.data<=32->aF IntKind.u8 (bO m.data):=fun h=>by simp only[aF,cc,bO]at *;omega
 simp only[uO,Hy];simp only[kH,jy,mN,iZ,decide_true,Bool.and_true,Bool.not_true,Bool.or_false,Bool.not_false,Bool.false_eq_true,Bool.true_eq_false,false_implies,implies_true,true_implies,true_and,and_true,and_self];have mk:fk L m=(decide (bO m.data<=32)&&bJ L m.k0&&bJ L m.k1&&bJ L m.k2):=rfl
 have bad:ai L≠0->fk L m=false->2=gf L i m/\L=gx L i m:=fun h hm=>no _ (by unfold gf;rw[aa1 h,aa2 hm]) (by omega)
 refine⟨fun h=>no _ (by unfold gf;rw[aa2 (hq1 h)]) (by omega),fun h=>⟨hsz,fun g1=>bad (hq0 h) ?_,fun g1=>⟨fun g2=>bad (hq0 h) ?_,fun g2=>⟨fun g3=>bad (hq0 h) ?_,fun g3=>⟨fun g4=>bad (hq0 h) ?_,fun g4=>⟨fun g5=>no _ ?_ (by omega),fun g5=>?_⟩⟩⟩⟩⟩⟩
 ·rw[mk,show decide (bO m.data<=32)=false by simpa using g1];rfl
 ·rw[mk,show bJ L m.k0=false by simpa using g2];simp
 ·rw[mk,show bJ L m.k1=false by simpa using g3];simp
 ·rw[mk,show bJ L m.k2=false by simpa using g4];simp
 all_goals
  have hm:fk L m=true:=by
   rw[mk,show decide (bO m.data<=32)=true by simpa using g1,show bJ L m.k0=true by simpa using g2,show bJ L m.k1=true by simpa using g3,show bJ L m.k2=true by simpa using g4];rfl
 ·unfold gf;rw[aa1 (hq0 h),aa1 (by simp[hm]),aa2 (by simpa using g5)]
 have g5':bw L i=1:=by simpa using g5
 have hE:gf L i m=0:=by unfold gf;rw[aa1 (hq0 h),aa1 (by simp[hm]),aa1 (by omega)]
 obtain⟨a,b,c,d⟩:=o7 (qM.1.1 (by omega:0<=bw L i))
 refine⟨hsz,hs8 (CQ hm),⟨by omega,by omega,by omega⟩,hE.symm,?_⟩
 obtain⟨f0,f1,f2⟩:=Df (by have:=gY hL;omega:0<L.length) m
 have ho:=GY (m:=aH L m) (a:=void) (dt hL i.toNat (by omega)) d f0 f1 f2 (Ah (by omega))
 have e:Obj.mk (aL L i).kind (aL L i).count (aL L i).calls (((((((aL L i).slots.put 2 (Key.mk 1 void.oid void.count void.call void.rights 1)).put 3 (Key.mk 1 void.oid void.count void.call void.rights m.code)).put 12 (ah L m.k0)).put 13 (ah L m.k1)).put 14 (ah L m.k2)).put 15 void) (KB (e9.put 0 (Vf (bO m.data))) (Int.toNat 1) (Int.toNat 64) m.data)=za (aL L i) (aH L m) void:=by
  rw[Nx (CQ hm)];rfl
 rw[e,c,(my a b ho).1];unfold gx rP;rw[aa2 hE]
theorem Xl (L:List Sx.Obj) (i:Int) (m:bp) (hL:aq L) (hs:aw m.data):an Tryz.prog 63 [.lp 0 0,.it .i64 i,jJ m] [.store tS eS L] (CA (.it .i64 (gf L i m)) (gx L i m)) (fun _ _=>False):=
 aY (inl:=(fun f=>f==91||f==94||f==93||f==100||f==129||f==96||f==128||f==98)) (ann:=(iJ [(94,2,Ml 4)])) (ae bC (ae fY (ae iv (ae gy (ae dJ (ae rR ar)))))) (aC dB aE) (eg lB) (Wh L i m hL hs) (by kernel_rfl)
theorem WR:lh Tryz.prog 63 Y4:=
 C6 (m:=fun x=>anB.cn x 0) (fP NB (fun _=>rfl)) (fun _=>rfl) (fun _ _=>rfl) (fun x hs=>aY (inl:=(fun f=>f==91||f==94||f==93||f==100||f==129||f==96||f==128||f==98)) (ann:=aQ) (ae sE (ae fY (ae iv (ae gy (ae dJ (ae rR ar)))))) (aC dB aE) (eg lB) (To x.1 x.2.1 hs) (by kernel_rfl)) (fun x hs=>aY (inl:=(fun f=>f==91||f==94||f==93||f==100||f==129||f==96||f==128||f==98)) (ann:=aQ) (ae sE (ae fY (ae iv (ae gy (ae dJ (ae rR ar)))))) (aC dB aE) (eg lB) (UK x.1 x.2.1 hs) (by kernel_rfl)) fun L x hq=>Xl L x.1 x.2.1 hq.1 hq.2
theorem Sn (i:Int) (k:Key) (md:Int) (m:bp) (hs:aw m.data):
 true=true/\1=b9 [] i k md m:=by
 exact⟨rfl,rfl⟩
theorem Ry (i:Int) (k:Key) (md:Int) (m:bp) (hs:aw m.data):
 true=true/\1=b9 [] i k md m:=by
 exact⟨rfl,rfl⟩
theorem Yt (L:List Sx.Obj) (i:Int) (k:Key) (md:Int) (m:bp) (hL:aq L) (hs:aw m.data):
 abb (aba (!decide (0<ak L)) (1=b9 L i k md m/\L=fe L i k md m) (abb (abb (aba (!(decide (md=1)||(decide (md=2)||decide (md=3)))) (2=b9 L i k md m/\L=fe L i k md m) (abb (abb (aba (!(decide (bB k=0)&&(!aZ k||decide (cy k<ak L)))) (2=b9 L i k md m/\L=fe L i k md m) (abb (abd (bO m.data)/\abb (aba (!decide (bO m.data<=32)) (2=b9 L i k md m/\L=fe L i k md m) (abb (abb (aba (!(decide (bB m.k0=0)&&(!aZ m.k0||decide (cy m.k0<ak L)))) (2=b9 L i k md m/\L=fe L i k md m) (abb (abb (aba (!(decide (bB m.k1=0)&&(!aZ m.k1||decide (cy m.k1<ak L)))) (2=b9 L i k md m/\L=fe L i k md m) (abb (abb (aba (!(decide (bB m.k2=0)&&(!aZ m.k2||decide (cy m.k2<ak L)))) (2=b9 L i k md m/\L=fe L i k md m) (abb (aba (!(dS L i&&decide (iG L i=1))) (230=b9 L i k md m/\L=fe L i k md m) (abb (aba (!((decide (k.kind=6)||decide (k.kind=7))&&aU L k)) (231=b9 L i k md m/\L=fe L i k md m) ((aba (decide (k.kind=6)) (abb (abb (aba (!dS L k.oid) (231=b9 L i k md m/\L=fe L i k md m) (abb (aba (!(decide (iG L k.oid=0)||decide (md=3)&&decide (k.oid=i))) (232=b9 L i k md m/\L=fe L i k md m) (∃g:Unit,Ig L i k md m/\i=i/\md=md/\L=L/\k=k/\m.code=m.code/\m.data=m.data/\ah L m.k0=ah L m.k0/\ah L m.k1=ah L m.k1/\ah L m.k2=ah L m.k2/\i=i/\k=k/\md=md/\Ag (decide (md=1)) 2 (Ag (decide (md=2)) 1 (Ag (decide (md=3)) 0 0))=jM md/\aL L i=aL L i)))))) (aba (decide (k.kind=7)) (abb (abb (aba (!dS L k.oid) (231=b9 L i k md m/\L=fe L i k md m) (abb (aba (!decide (iG L k.oid=2)) (232=b9 L i k md m/\L=fe L i k md m) (abb (aba (!decide ((aL L k.oid).calls<4294967295)) (233=b9 L i k md m/\L=fe L i k md m) (∃g:Unit,Ig L i k md m/\i=i/\md=md/\L=L/\k=k/\m.code=m.code/\m.data=m.data/\ah L m.k0=ah L m.k0/\ah L m.k1=ah L m.k1/\ah L m.k2=ah L m.k2/\i=i/\k=k/\md=md/\Ag (decide (md=1)) 2 (Ag (decide (md=2)) 1 (Ag (decide (md=3)) 0 0))=jM md/\aL L i=aL L i)))))))) False))/\∀(g:Unit),Ig L i k md m->abb (aba (!(!decide (md=1)||decide ((aL L i).calls<4294967295))) (233=b9 L i k md m/\L=fe L i k md m) ((aba (decide (md=1)) (∃g:Unit,n9 L i k md m/\i=i/\md=md/\L=L/\k=k/\m.code=m.code/\m.data=m.data/\ah L m.k0=ah L m.k0/\ah L m.k1=ah L m.k1/\ah L m.k2=ah L m.k2/\i=i/\k=k/\md=md/\jM md=jM md/\aL L i=aL L i/\Key.mk 7 i (aL L i).count (aL L i).calls void.rights void.value=iO L i md) (∃g:Unit,n9 L i k md m/\i=i/\md=md/\L=L/\k=k/\m.code=m.code/\m.data=m.data/\ah L m.k0=ah L m.k0/\ah L m.k1=ah L m.k1/\ah L m.k2=ah L m.k2/\i=i/\k=k/\md=md/\jM md=jM md/\aL L i=aL L i/\void=iO L i md))/\∀(g:Unit),n9 L i k md m->(abb (abb (abb (abb (∃g:Unit,n9 L i k md m/\i=i/\md=md/\cK L i (Obj.mk (aL L i).kind (aL L i).count (aL L i).calls ((aL L i).slots.put 2 (abg (jM md))) (aL L i).bytes)=gS L i md/\k=k/\m.code=m.code/\m.data=m.data/\ah L m.k0=ah L m.k0/\ah L m.k1=ah L m.k1/\ah L m.k2=ah L m.k2/\i=i/\k=k/\md=md/\jM md=jM md/\aL L i=aL L i/\iO L i md=iO L i md)))))/\∀(g:Unit),n9 L i k md m->(aba (decide (k.kind=7)) (abb (abb (abd ((aL (gS L i md) k.oid).calls+1)/\abb (∃g:Unit,n9 L i k md m/\i=i/\md=md/\cK (gS L i md) k.oid (Obj.mk (aL (gS L i md) k.oid).kind (aL (gS L i md) k.oid).count ((aL (gS L i md) k.oid).calls+1) (aL (gS L i md) k.oid).slots (aL (gS L i md) k.oid).bytes)=h9 L i k md/\k=k/\m.code=m.code/\m.data=m.data/\ah L m.k0=ah L m.k0/\ah L m.k1=ah L m.k1/\ah L m.k2=ah L m.k2/\i=i/\k=k/\md=md/\jM md=jM md/\aL L i=aL L i/\iO L i md=iO L i md)))) (∃g:Unit,n9 L i k md m/\i=i/\md=md/\gS L i md=h9 L i k md/\k=k/\m.code=m.code/\m.data=m.data/\ah L m.k0=ah L m.k0/\ah L m.k1=ah L m.k1/\ah L m.k2=ah L m.k2/\i=i/\k=k/\md=md/\jM md=jM md/\aL L i=aL L i/\iO L i md=iO L i md))/\∀(g:Unit),n9 L i k md m->abb (abb (abb (abb (abb (abd (bO m.data)/\aF IntKind.u8 (bO m.data)/\CU 1 64 64/\abb (0=b9 L i k md m/\cK (h9 L i k md) k.oid (Obj.mk (aL (h9 L i k md) k.oid).kind (aL (h9 L i k md) k.oid).count (aL (h9 L i k md) k.oid).calls (((((((aL (h9 L i k md) k.oid).slots.put 2 (abg 1)).put 3 (abg m.code)).put 12 (ah L m.k0)).put 13 (ah L m.k1)).put 14 (ah L m.k2)).put 15 (iO L i md)) (KB (e9.put 0 (Vf (bO m.data))) (Int.toNat 1) (Int.toNat 64) m.data))=fe L i k md m)))))))))))))))))))))))))))))))):=by
 delta aba abg abd abb
 have hq1:(!decide (0<ak L))=true->ai L=0:=fun h=>by
  have h1:¬0<ak L:=by simpa using h
  unfold ak at h1;omega
 have hq0:(!decide (0<ak L))=false->ai L≠0:=fun h=>by
  have h1:0<ak L:=by simpa using h
  unfold ak at h1;omega
 have hsz:aF IntKind.i64 (bO m.data):=by unfold aw at hs;simp only[aF,cc,bO];omega
 have hs8:bO m.data<=32->aF IntKind.u8 (bO m.data):=fun h=>by simp only[aF,cc,bO]at *;omega
 simp only[uO,Hy];simp only[kH,jy,mN,iZ,decide_true,Bool.and_true,Bool.not_true,Bool.or_false,Bool.not_false,Bool.false_eq_true,Bool.true_eq_false,false_implies,implies_true,true_implies,true_and,and_true,and_self];have mk:fk L m=(decide (bO m.data<=32)&&bJ L m.k0&&bJ L m.k1&&bJ L m.k2):=rfl
 refine⟨fun h=>nA (Yq (hq1 h)) (by omega),fun h=>⟨fun c1=>nA (DK (hq0 h) (.inl ?_)) (by omega),fun c1=>⟨fun c2=>nA (DK (hq0 h) (.inr (.inl ?_))) (by omega),fun c2=>⟨hsz,fun g1=>nA (DK (hq0 h) (.inr (.inr ?_))) (by omega),fun g1=>⟨fun g2=>nA (DK (hq0 h) (.inr (.inr ?_))) (by omega),fun g2=>⟨fun g3=>nA (DK (hq0 h) (.inr (.inr ?_))) (by omega),fun g3=>⟨fun g4=>nA (DK (hq0 h) (.inr (.inr ?_))) (by omega),fun g4=>?_⟩⟩⟩⟩⟩⟩⟩
 ·simp at c1;omega
 ·simpa using c2
 ·rw[mk,show decide (bO m.data<=32)=false by simpa using g1];rfl
 ·rw[mk,show bJ L m.k0=false by simpa using g2];simp
 ·rw[mk,show bJ L m.k1=false by simpa using g3];simp
 ·rw[mk,show bJ L m.k2=false by simpa using g4];simp
 have hl:=hq0 h;have b1:1<=md/\md<=3:=by simp at c1;omega
 have b2:bJ L k=true:=by simpa using c2
 have b3:fk L m=true:=by
  rw[mk,show decide (bO m.data<=32)=true by simpa using g1,show bJ L m.k0=true by simpa using g2,show bJ L m.k1=true by simpa using g3,show bJ L m.k2=true by simpa using g4];rfl
 have b:¬(¬(1<=md/\md<=3)\/bJ L k=false\/fk L m=false):=by
  rw[b2,b3];rintro(x|x|x)
  ·exact x b1
  ·exact Bool.noConfusion x
  ·exact Bool.noConfusion x
 refine⟨fun g5=>nA (G2 hl b (by simpa using g5)) (by omega),fun g5=>?_⟩
 have c:bw L i=1:=by simpa using g5
 refine⟨fun g6=>nA (Ay hl b c ?_) (by omega),fun g6=>?_⟩
 ·simp only[Bool.not_eq_true',Bool.and_eq_false_iff,Bool.or_eq_false_iff,decide_eq_false_iff_not]at g6;rcases g6 with⟨x,y⟩|x
  ·exact .inr (.inl (by omega))
  ·exact .inl x
 have d1:(k.kind=6\/k.kind=7)/\aU L k=true:=by simp at g6;exact⟨by omega,g6.2⟩
 have hd:(!dS L k.oid)=true->231=b9 L i k md m/\L=fe L i k md m:=fun x=>nA (Ay hl b c (.inr (.inr (qM.2.2 (by simpa using x))))) (by omega)
 have dd:0<=bw L k.oid->¬(aU L k=false\/¬(k.kind=6\/k.kind=7)\/bw L k.oid<0):=fun h0=>by
  rw[d1.2];rintro(x|x|x)
  ·exact Bool.noConfusion x
  ·exact x d1.1
  ·omega
 have hd':(!dS L k.oid)=false->0<=bw L k.oid/\iG L k.oid=bw L k.oid:=fun x=>by
  have hb:dS L k.oid=true:=by simpa using x
  exact⟨qM.1.2 hb,ZY hb⟩
 obtain⟨n0,n1,_,n3⟩:=Gk b1;rw[n3];refine⟨⟨fun h6=>⟨hd,fun x=>⟨fun y=>?_,fun y=>⟨⟨⟩,?_,rfl⟩⟩⟩,fun h6=>⟨fun h7=>⟨hd,fun x=>⟨fun y=>?_,fun y=>⟨fun z=>?_,fun z=>⟨⟨⟩,?_,rfl⟩⟩⟩⟩,fun h7=>?_⟩⟩,fun _ hF=>?_⟩
 ·obtain⟨p0,pv⟩:=hd' x;have h6':=aaZ h6;rw[pv]at y;refine nA (CS hl b c (dd p0) (.inl ⟨h6',?_⟩)) (by omega)
  simp only[Bool.not_eq_true',Bool.or_eq_false_iff,Bool.and_eq_false_iff,decide_eq_false_iff_not]at y;exact⟨y.1,fun hh=>y.2.elim (fun u=>u hh.1) (fun u=>u hh.2)⟩
 ·obtain⟨p0,pv⟩:=hd' x;have h6':=aaZ h6;rw[pv]at y;simp only[Bool.not_eq_false',Bool.or_eq_true,aaV,aaW]at y;refine⟨hl,b1,b2,b3,c,d1.2,d1.1,p0,?_,fun hh=>by omega⟩
  rintro(⟨_,u,v⟩|⟨u,_⟩)
  ·exact y.elim u v
  ·omega
 ·obtain⟨p0,pv⟩:=hd' x;have h7':=aaZ h7;rw[pv]at y;exact nA (CS hl b c (dd p0) (.inr ⟨h7',by simpa using y⟩)) (by omega)
 ·obtain⟨p0,pv⟩:=hd' x;have h7':=aaZ h7;rw[pv]at y;have y':bw L k.oid=2:=by simpa using y
  obtain⟨_,_,k2,_⟩:=o7 (qM.1.1 p0);rw[k2]at z;refine nA (CY hl b c (dd p0) ?_ (.inl ⟨h7',by simpa using z⟩)) (by omega)
  rintro(⟨u,_⟩|⟨_,u⟩)<;>omega
 ·obtain⟨p0,pv⟩:=hd' x;have h7':=aaZ h7;rw[pv]at y;have y':bw L k.oid=2:=by simpa using y
  obtain⟨_,_,k2,_⟩:=o7 (qM.1.1 p0);rw[k2]at z;have z':(aj L k.oid.toNat free).calls<4294967295:=by simpa using z
  refine⟨hl,b1,b2,b3,c,d1.2,d1.1,p0,?_,fun hh=>by omega⟩
  rintro(⟨u,_⟩|⟨_,u⟩)<;>omega
 ·have h6':=aaY h6;have h7':=aaY h7;omega
 obtain⟨_,_,_,_,_,_,_,p0,f9,f10⟩:=hF;obtain⟨i0,i1,i2,i3⟩:=o7 (qM.1.1 (by omega:0<=bw L i))
 rw[i2];refine⟨fun g7=>nA (CY hl b c (dd p0) f9 (.inr ?_)) (by omega),fun g7=>?_⟩
 ·simp only[Bool.not_eq_true',Bool.or_eq_false_iff,Bool.not_eq_false',aaW,decide_eq_false_iff_not]at g7;omega
 have hE:b9 L i k md m=0:=by
  refine Zc hl b c (dd p0) f9 ?_;simp only[Bool.not_eq_false',Bool.or_eq_true,Bool.not_eq_true',aaW,decide_eq_false_iff_not]at g7;rintro(u|u)
  ·exact f10 u
  ·omega
 obtain⟨_,⟨⟨k0,k1⟩,_,_⟩,⟨hb,hb1⟩,⟨o1,l1⟩,⟨o2,l2⟩,⟨q1,q1c⟩,q2,hs32,hA⟩:=Af hL hE;obtain⟨_,_,hend⟩:=Gq hL hE;refine⟨⟨fun h1=>⟨⟨⟩,hE,?_⟩,fun h1=>⟨⟨⟩,hE,?_⟩⟩,fun _ _=>⟨⟨⟨⟩,hE,?_⟩,fun _ _=>⟨⟨fun h7=>⟨?_,⟨⟩,hE,?_⟩,fun h7=>⟨⟨⟩,hE,?_⟩⟩,fun _ _=>⟨hsz,hs8 hs32,⟨by omega,by omega,by omega⟩,hE.symm,?_⟩⟩⟩⟩
 ·unfold iO;rw[aa2 (aaZ h1)];rfl
 ·unfold iO;rw[aa1 (aaY h1)]
 ·have e:=(Oa hL hb).2;rw[hb1,i2]at e;exact e
 ·have ho:=fo.1 (dt o1 k.oid.toNat (by omega))
  rw[fG k0 (by omega)]
  have:=ho.2.2.2.2.2.2.1;have:=ho.2.2.2.2.2.2.2.1;simp only[aF,cc];omega
 ·have h7':=aaZ h7;have hc:¬4294967295<=(aj L k.oid.toNat free).calls:=fun h=>f10 ⟨h7',h⟩
  have e:=(my k0 (by omega) (Ma (dt o1 k.oid.toNat (by omega)) q1 (by rw[q1c];omega))).1
  rw[fG k0 (by omega)]
  unfold h9;rw[aa2 h7'];exact e
 ·unfold h9;rw[aa1 (aaY h7)]
 ·rw[Nx hs32,hE]at *;exact hend
theorem W6 (L:List Sx.Obj) (i:Int) (k:Key) (md:Int) (m:bp) (hL:aq L) (hs:aw m.data):an Tryz.prog 60 [.lp 0 0,.it .i64 i,.key k,.it .i64 md,jJ m] [.store tS eS L] (CA (.it .i64 (b9 L i k md m)) (fe L i k md m)) (fun _ _=>False):=
 aY (inl:=(fun f=>f==91||f==92||f==97||f==99||f==126||f==127||f==94||f==93||f==100||f==129||f==96||f==128||f==98)) (ann:=(iJ [(94,2,Ml 4),(60,2000015,En [0,1,3,7,10,11,12,15,20] (fun(_:Unit)=> []) (fun _=> [(12,.blk 129 (.it .i64 (jM md)))]) (fun _=> []) (fun _=>Ig L i k md m)),(60,2000019,En [0,1,3,7,10,11,12,15,20] (fun(_:Unit)=> []) (fun _=> [(20,.blk tK (.key (iO L i md)))]) (fun _=> []) (fun _=>n9 L i k md m)),(60,2000020,En [0,1,3,7,10,11,12,15,20] (fun(_:Unit)=> []) (fun _=> []) (fun _=> [(0,.store tS eS (gS L i md))]) (fun _=>n9 L i k md m)),(60,2000022,En [0,1,3,7,10,11,12,15,20] (fun(_:Unit)=> []) (fun _=> []) (fun _=> [(0,.store tS eS (h9 L i k md))]) (fun _=>n9 L i k md m))])) (ae bC (ae fY (ae iv (ae gy (ae dJ (ae rR (ae bR (ae wm ar)))))))) (aC dB aE) (eg lB) (Yt L i k md m hL hs) (by kernel_rfl)
theorem Xx:lh Tryz.prog 60 aab:=
 C6 (m:=fun x=>ivB.cn x 0) (fP K8 (fun _=>rfl)) (fun _=>rfl) (fun _ _=>rfl) (fun x hs=>aY (inl:=(fun f=>f==91||f==92||f==97||f==99||f==126||f==127||f==94||f==93||f==100||f==129||f==96||f==128||f==98)) (ann:=aQ) (ae sE (ae fY (ae iv (ae gy (ae dJ (ae rR (ae bR (ae wm ar)))))))) (aC dB aE) (eg lB) (Sn x.1 x.2.1 x.2.2.1 x.2.2.2.1 hs) (by kernel_rfl)) (fun x hs=>aY (inl:=(fun f=>f==91||f==92||f==97||f==99||f==126||f==127||f==94||f==93||f==100||f==129||f==96||f==128||f==98)) (ann:=aQ) (ae sE (ae fY (ae iv (ae gy (ae dJ (ae rR (ae bR (ae wm ar)))))))) (aC dB aE) (eg lB) (Ry x.1 x.2.1 x.2.2.1 x.2.2.2.1 hs) (by kernel_rfl)) fun L x hq=>W6 L x.1 x.2.1 x.2.2.1 x.2.2.2.1 hq.1 hq.2
theorem T1 (L:List Sx.Obj) (hl:iu L):
 (∃g,iB L g/\Value.slice none 0 0=Value.slice none 0 0/\0=g/\L=L/\[]=dL L g)/\∀(g:Int),iB L g->aba (decide (g<bQ (ai L))) (aba (decide (bw L g=1)) (s5 (ai (dL L g)) 8/\abd (g+1)/\∃g',iB L g'/\(bQ (ai L)-g').toNat<(bQ (ai L)-g).toNat/\Value.slice none 0 0=Value.slice none 0 0/\g+1=g'/\L=L/\jm (dL L g) g=dL L g') (abd (g+1)/\∃g',iB L g'/\(bQ (ai L)-g').toNat<(bQ (ai L)-g).toNat/\Value.slice none 0 0=Value.slice none 0 0/\g+1=g'/\L=L/\dL L g=dL L g')) (true=true/\∀(nid:Nat),some (V.sa nid)=some (V.sa nid)/\some [aK.arr (some tI) 1 (TL.it IntKind.i64 (dL L g))]=some [aK.arr (some tI) 1 (TL.it IntKind.i64 (dL L (bQ (ai L))))]):=by
 delta aba abd
 simp only[kH,jy,mN,iZ,decide_true,Bool.and_true,Bool.not_true,Bool.or_false,Bool.not_false,Bool.false_eq_true,Bool.true_eq_false,false_implies,implies_true,true_implies,true_and,and_true,and_self];refine⟨⟨0,⟨by omega,by omega⟩,rfl,(wU L).symm⟩,fun g hg=>⟨fun h=>?_,fun h=>?_⟩⟩
 ·have h1:g<(L.length:Int):=aaZ h;obtain⟨s1,s2,s3⟩:=EZ hl hg h1;have e:=wC L hg.1;refine⟨fun h2=>⟨Ee hl h1,s1,g+1,s2,s3,rfl,?_⟩,fun h2=>⟨s1,g+1,s2,s3,rfl,?_⟩⟩
  ·rw[e,aa2 (aaZ h2)]
  ·rw[e,aa1 (aaY h2)]
 ·have h1:¬g<(L.length:Int):=aaY h;have:g=bQ (ai L):=by have:=hg.2;unfold bQ ai at *;omega
  rw[this];exact fun _=>rfl
theorem UE (L:List Sx.Obj) (hl:iu L):an Tryz.prog 49 [.sa 0] [.ro (.arr none 163 (.ob L))] (Dh true ke (fun n=> .sa n) (.arr (some tI) 1 (.it .i64 (dL L (bQ (ai L)))))) (fun _ _=>False):=
 bm (inl:=bx) (ann:=(iJ [(49,3,lpS [0,2] (fun g=> [(4,.it .i64 g)]) 3 tI 1 (fun g=> .it .i64 (dL L g)) (iB L) (bQ (ai L)))])) (ae vM ar) aE (T1 L hl) (by kernel_rfl)
theorem Te:lh Tryz.prog 49 Wz:=
 Cq (aA jC bV) (fun _=>rfl) (fun _=>by simp) fun a hq hok=>by
  obtain⟨L,_⟩:=a;exact UE L hq
theorem Re:
 abb (abb (∀(r0:Loop),(∃g,iB [] g/\ak []=ak []/\0=g/\Value.pointer none=Value.pointer none/\r0=r0/\[]=dL [] g)/\∀(g:Int),iB [] g->aba (decide (g<ak [])) False (abb (∀(nid:Nat),some (V.sa nid)=some (V.sa nid)/\some [aK.arr (some tI) 1 (TL.it IntKind.i64 (dL [] g))]=some [aK.arr (some tI) 1 (TL.it IntKind.i64 (dL [] (bQ (ai ([]:List Sx.Obj)))))])))):=by
 delta aba abb
 simp only[kH,jy,mN,iZ,decide_true,Bool.and_true,Bool.not_true,Bool.or_false,Bool.not_false,Bool.false_eq_true,Bool.true_eq_false,false_implies,implies_true,true_implies,true_and,and_true,and_self];refine fun _=>⟨⟨0,⟨by omega,by unfold ai;simp⟩,rfl,rfl⟩,fun g hg=>⟨fun h=>?_,fun h _=>?_⟩⟩
 ·have h1:g<ak []:=aaZ h;have:=hg.1;unfold ak ai at h1;simp at h1;omega
 ·have:g=bQ (ai ([]:List Obj)):=by have:=hg.1;have:=hg.2;unfold bQ ai at *;simp at *;omega
  rw[this];rfl
theorem SS:an Tryz.prog 57 [ke] [] (Dh true ke (fun n=> .sa n) (.arr (some tI) 1 (.it .i64 (dL [] (bQ (ai ([]:List Sx.Obj))))))) (fun _ _=>False):=
 bm (inl:=(fun f=>f==88||f==24)) (ann:=(iJ [(4000+44,1,lpV [0,1,5] (fun g=> [(6,.it .i64 g)]) 0 103 tI 1 (fun g=> .it .i64 (dL [] g)) (iB []) (bQ (ai ([]:List Sx.Obj))))])) (ae bC ar) aE (Re) (by kernel_rfl)
theorem WJ (L:List Sx.Obj) (hl:iu L):
 abb (abb (∀(r0:Loop),(∃g,iB L g/\ak L=ak L/\0=g/\L=L/\r0=r0/\[]=dL L g)/\∀(g:Int),iB L g->aba (decide (g<ak L)) ((0<=g/\g< ↑(ai L))/\g.toNat<ai L/\g.toNat<ai L/\r0=r0/\r0=r0/\abb (aba (!decide ((aj L g.toNat free).kind=1)|| !decide (((aj L g.toNat free).slots.at 2).kind=1)||decide (((aj L g.toNat free).slots.at 2).value<0)||decide (2<((aj L g.toNat free).slots.at 2).value)) (r0=r0/\abd (g+1)/\∃g',iB L g'/\(bQ (ai L)-g').toNat<(bQ (ai L)-g).toNat/\ak L=ak L/\g+1=g'/\L=L/\r0=r0/\dL L g=dL L g') (aba (decide (((aj L g.toNat free).slots.at 2).value=1)) (s5 (ai (dL L g)) 8/\r0=r0/\abd (g+1)/\∃g',iB L g'/\(bQ (ai L)-g').toNat<(bQ (ai L)-g).toNat/\ak L=ak L/\g+1=g'/\L=L/\r0=r0/\jm (dL L g) g=dL L g') (r0=r0/\abd (g+1)/\∃g',iB L g'/\(bQ (ai L)-g').toNat<(bQ (ai L)- g).toNat/\ak L=ak L/\g+1=g'/\L=L/\r0=r0/\dL L g=dL L g')))) (abb (∀(nid:Nat),some (V.sa nid)=some (V.sa nid)/\some [aK.arr (some tI) 1 (TL.it IntKind.i64 (dL L g))]=some [aK.arr (some tI) 1 (TL.it IntKind.i64 (dL L (bQ (ai L))))])))):=by
 delta aba abd abb
 simp only[yg];simp only[kH,jy,mN,iZ,decide_true,Bool.and_true,Bool.not_true,Bool.or_false,Bool.not_false,Bool.false_eq_true,Bool.true_eq_false,false_implies,implies_true,true_implies,true_and,and_true,and_self];refine fun _=>⟨⟨0,⟨by omega,by omega⟩,rfl,(wU L).symm⟩,fun g hg=>⟨fun h=>?_,fun h=>?_⟩⟩
 ·have h1:g<(L.length:Int):=aaZ h;obtain⟨s1,s2,s3⟩:=EZ hl hg h1;have e:=wC L hg.1;have hlL:ai L=L.length:=rfl;have hg0:=hg.1;have hget:aL L g=aj L g.toNat free:=fG hg.1 h1;refine⟨⟨by omega,by omega⟩,by omega,by omega,fun h2=>⟨s1,g+1,s2,s3,rfl,?_⟩,fun h2=>⟨fun h3=>⟨Ee hl h1,s1,g+1,s2,s3,rfl,?_⟩,fun h3=>⟨s1,g+1,s2,s3,rfl,?_⟩⟩⟩
  ·have hb:dS L g=false:=by unfold dS;rw[hget];simpa using h2
   rw[e,aa1 (by rw[(ur hb).1];omega)]
  ·have hb:dS L g=true:=by unfold dS;rw[hget];simpa using h2
   rw[e,aa2 (by rw[(mG hb).1,hget];exact aaZ h3)]
  ·have hb:dS L g=true:=by unfold dS;rw[hget];simpa using h2
   rw[e,aa1 (by rw[(mG hb).1,hget];exact aaY h3)]
 ·have h1:¬g<(L.length:Int):=aaY h;have:g=bQ (ai L):=by have:=hg.2;unfold bQ ai at *;omega
  rw[this];exact fun _=>rfl
theorem V4 (L:List Sx.Obj) (hl:iu L):an Tryz.prog 57 [.lp 0 0] [.ro (.store tS eS L)] (Dh true ke (fun n=> .sa n) (.arr (some tI) 1 (.it .i64 (dL L (bQ (ai L)))))) (fun _ _=>False):=
 bm (inl:=(fun f=>f==88||f==24)) (ann:=(iJ [(4000+44,1,lpV [0,1,5] (fun g=> [(6,.it .i64 g)]) 1 103 tI 1 (fun g=> .it .i64 (dL L g)) (iB L) (bQ (ai L)))])) (ae bC ar) aE (WJ L hl) (by kernel_rfl)
theorem VP:lh Tryz.prog 57 ZQ:=
 Cq (aA tk bV) (fun _=>rfl) (fun _=>by simp) fun a hq hok=>by
  obtain⟨S,_⟩:=a;cases S with
  |none=>exact SS
  |some L=>exact V4 L hq
end Go.Proofs.YtlblcfaclmpekaaGreat
namespace Go.Sx
def oP:Nat:=179
def jz (k:Key) (r:Int):Key:=if k.kind=2 then dn k (iD k.rights r)else if k.kind=3 then dn k (iD k.rights (r.tmod 2))else k
def iK (k:Key) (r:Int):Prop:=aV k=true/\0<=r/\r<=7
def VA:Ct:=s7 (ba kA (ba iA gJ)) (fun x=>some (iK x.1 x.2.1)) fun x=> .tp [.key (jz x.1 x.2.1),.ci .i64 0]
def UQ:Ct:=s7 (ba kA (ba iA gJ)) (fun x=>some (iK x.1 x.2.1)) fun x=> .key (jz x.1 x.2.1)
def k7 (a b:Key):Bool:=aV a&&aV b&&(decide (a.kind=0)||Bw a b||(decide (a.kind=2)||decide (a.kind=3))&&decide (a.kind=b.kind)&&decide (a.oid=b.oid)&&decide (a.count=b.count)&&decide (iD a.rights b.rights=a.rights))
def Pj:Ct:=Se rK rK fun a b=> .bo (k7 a b)
theorem Gi {a:Int} (h:0<=a/\a<=7):∃x:Fin 8,a=(x.val:Int):=⟨⟨a.toNat,by omega⟩,by simp;omega⟩
theorem LU {a r:Int} (h:0<=a/\a<=7) (h':0<=r/\r<=7):bk .or .i64 a (bk .and .i64 r 7)=iD a r:=by
 have key:∀x y:Fin 8,bk .or .i64 (x.val:Int) (bk .and .i64 (y.val:Int) 7)=iD (x.val:Int) (y.val:Int):=by decide+kernel
 obtain⟨x,rfl⟩:=Gi h;obtain⟨y,rfl⟩:=Gi h';exact key x y
theorem KJ {a r:Int} (h:0<=a/\a<=1) (h':0<=r/\r<=7):bk .or .i64 a (bk .and .i64 r 1)=iD a (r.tmod 2):=by
 have key:∀x y:Fin 8,x.val<=1->bk .or .i64 (x.val:Int) (bk .and .i64 (y.val:Int) 1)=iD (x.val:Int) ((y.val:Int).tmod 2):=by decide+kernel
 obtain⟨x,rfl⟩:=Gi (a:=a) (by omega)
 obtain⟨y,rfl⟩:=Gi h';exact key x y (by omega)
theorem Qf {r:Int} (h':0<=r/\r<=7):bk .or .i64 0 (bk .and .i64 r 0)=0:=by
 have key:∀y:Fin 8,bk .or .i64 0 (bk .and .i64 (y.val:Int) 0)=0:=by decide+kernel
 obtain⟨y,rfl⟩:=Gi h';exact key y
theorem Ba {a b:Int} (h:0<=a/\a<=7) (h':0<=b/\b<=7):decide (bk .andNot .i64 b a=0)=decide (iD a b=a):=by
 have key:∀x y:Fin 8,decide (bk .andNot .i64 (y.val:Int) (x.val:Int)=0)=decide (iD (x.val:Int) (y.val:Int)=(x.val:Int)):=by decide+kernel
 obtain⟨x,rfl⟩:=Gi h;obtain⟨y,rfl⟩:=Gi h';exact key x y
def eY (k:Key):bp:=⟨0,⟨#[]⟩,k,void,void⟩
def fu (n:Int):bp:=⟨0,⟨#[]⟩,void,void,bL n⟩
def gm (s:ByteArray):bp:=⟨0,s,void,void,void⟩
def gg (e:Int):bp:=⟨e,⟨#[]⟩,void,void,void⟩
def fl (k:Key):Key:=⟨2,k.oid,k.count,0,0,0⟩
def aS (m:bp):Int:=if 0<=m.k2.value/\m.k2.value<=2147483647 then m.k2.value else -1
def dZ (b:Bool):Int:=if b then 1 else 0
def qJ (n:Int):Int:=imax 0 (lT 32 (64-n))
abbrev P6:=Int×bp×List Obj
def ey (L:List Obj) (k:Key) (m:bp):P6:=
 if m.code=1 then(bY L k (aS m),eY (aJ L k (aS m)),L)
 else if m.code=2 then(bj L k (aS m) m.k0,eY (cT L k (aS m) m.k0),cC L k (aS m) m.k0)
 else if m.code=3 then(aB L k 2 true,cY,fA L k)
 else if m.code=4 then(bT L k m.k0,cY,eT L k m.k0)
 else if m.code=5 then(if 0<=m.k2.value/\m.k2.value<=7 then 0 else 2,eY (jz k m.k2.value),L)
 else(if k.rights=0 then 0 else 191,eY ⟨5,k.oid,k.count,0,0,0⟩,L)
def eo (L:List Obj) (k:Key) (m:bp):P6:=
 if m.code=1 then(cD L k (aS m) (qJ (aS m)),gm (ec L k (aS m) (qJ (aS m))),L)
 else if m.code=2 then(cL L k (aS m) m.data,cY,eZ L k (aS m) m.data)
 else if m.code=3 then(aW L k true,cY,fq L k)
 else if m.code=4 then(cU L k m.k0,cY,fM L k m.k0)
 else(if 0<=m.k2.value/\m.k2.value<=7 then 0 else 2,eY (jz k m.k2.value),L)
def dC (L:List Obj) (k:Key) (m:bp):P6:=
 if m.code=1 then(cA L k 1,eY (dh L k 1),fx L k 1)
 else if m.code=2 then(cA L k 2,eY (dh L k 2),fx L k 2)
 else if m.code=3 then(cE L k m.k0,cY,gA L k m.k0)
 else if m.code=4 then(b8 L k (aS m),eY (ck L k (aS m)),bE L k (aS m))
 else if m.code=5 then(aN L k,fu (dZ (jF L k m.k0)),L)
 else(aN L k,fu (fN L k),ib L k)
def fO (L:List Obj) (k:Key):Key:=aJ L (fl k) 0
def dv (L:List Obj) (k:Key) (m:bp):P6:=
 if m.code=1 then(if aS m<0\/11<aS m then 4 else bY L (fl k) (aS m+4),eY (aJ L (fl k) (aS m+4)),L)
 else if m.code=2 then(if aS m<0\/11<aS m then 4 else bj L (fl k) (aS m+4) m.k0,eY (cT L (fl k) (aS m+4) m.k0),if aS m<0\/11<aS m then L else cC L (fl k) (aS m+4) m.k0)
 else if m.code=3 then(0,eY ⟨6,k.oid,k.count,0,0,m.k2.value⟩,L)
 else if m.code=4 then(0,fu (bw L k.oid),L)
 else if m.code=5 then(er L k.oid (aS m),cY,dg L k.oid (aS m))
 else if m.code=6 then(if cm L (fO L k) m.k2.value 32=0 then(if bW L (fO L k) m.k2.value 32 false=0 then 0 else 1000+bW L (fO L k) m.k2.value 32 false)else cm L (fO L k) m.k2.value 32,gm (jW L (fO L k) m.k2.value 32),L)
 else(if cm L (fO L k) m.k2.value (bO m.data)=0 then(if bW L (fO L k) m.k2.value (bO m.data) true=0 then 0 else 1000+bW L (fO L k) m.k2.value (bO m.data) true)else cm L (fO L k) m.k2.value (bO m.data),cY,kx L (fO L k) m.k2.value m.data)
def de (kind:Int):Int:=if kind=1 then 1 else if kind=2 then 6 else if kind=3 then 5 else if kind=4 then 6 else if kind=5 then 7 else if kind=8 then 3 else if kind=9\/kind=10 then 1 else 0
def cX (kind c:Int):Bool:=
 if kind=2\/kind=3 then decide (c=1)||decide (c=2)||decide (c=5)else if kind=4 then decide (c=4)
 else if kind=5 then decide (1<=c/\c<=3)||decide (5<=c/\c<=7)else false
def eJ (L:List Obj) (now:Int) (k:Key) (m:bp):P6:=
 if k.kind=1 then(0,fu k.value,L)
 else if k.kind=2 then ey L k m
 else if k.kind=3 then eo L k m
 else if k.kind=4 then dC L k m
 else if k.kind=5 then dv L k m
 else if k.kind=8 then(0,if m.code=1 then fu m.k0.kind else if m.code=2 then fu (dZ (k7 m.k0 m.k1))else fu m.k0.rights,L)
 else if k.kind=9 then(0,fu now,L)
 else(0,cY,L)
def dI (L:List Obj) (now:Int) (k:Key) (m:bp):P6:=
 if k.kind=0 then(190,cY,L)
 else if m.code=0 then(0,fu k.kind,L)
 else if m.code<1\/de k.kind<m.code\/(cX k.kind m.code=true/\m.k2.kind≠1)then(240,cY,L)
 else eJ L now k m
def en (L:List Obj) (now:Int) (k:Key) (m:bp):bp:=if(dI L now k m).1=0 then(dI L now k m).2.1 else gg (dI L now k m).1
def eF (L:List Obj) (now:Int) (k:Key) (m:bp):List Obj:=(dI L now k m).2.2
def aP (L:List Obj) (now:Int) (k:Key) (m:bp):bp×List Obj:=(en L now k m,eF L now k m)
def kk (c:Int) (k:Key):Key:=⟨c,k.oid,k.count,k.call,k.rights,k.value⟩
def mm (c:Int) (m:bp):bp:=⟨c,m.data,m.k0,m.k1,m.k2⟩
def eB:ByteArray:=⟨#[]⟩
def iU (c:V) (m:bp) (n:Int) (kd:V) (k:Key):V:= .ag [.ag [c,.st m.data,.ag [.key m.k0,.key m.k1,.key m.k2]],.lp 1 0,.it .i64 n,.ag [kd,.it .i64 k.oid,.it .i64 k.count,.it .i64 k.call,.it .i64 k.rights,.it .i64 k.value]]
def kO (A:bp×List Obj) (v:V) (r:List aK):Prop:=
 match AL v with
 |some x=>match az r 1 with
  | .store t e M=>if t==tS&&e==eS then(x,M)=A else False
  |_=>False
 |none=>False
theorem VQ {A:bp×List Obj} {v:V} {r:List aK} (h:kO A v r):ya (jJ A.1) v r/\az r 1= .store tS eS A.2:=by
 unfold kO at h;split at h
 case h_2=>exact h.elim
 rename_i x hx;split at h
 case h_2=>exact h.elim
 rename_i hr;split at h
 case isFalse=>exact h.elim
 rename_i hc;simp only[aaV,aaX]at hc;obtain⟨rfl,rfl⟩:=hc;subst h;obtain⟨a,b⟩:=DA v x hx;have ht:cS v=false:=by cases v<;>first|rfl|simp[AL]at hx
 exact⟨fun J K=>⟨a J,fun h=>fT (b K h),ht⟩,hr⟩
def uD (r:P6):bp×List Obj:=(if r.1=0 then r.2.1 else gg r.1,r.2.2)
theorem Im {L:List Obj} {n:Int} {k:Key} {m:bp} {c:Int} (hc:1<=c/\c<=7):aP L n (kk 5 k) (mm c m)=if cX 5 c=true/\m.k2.kind≠1 then(gg 240,L)else uD (dv L (kk 5 k) (mm c m)):=by
 have h0:¬c=0:=by omega
 have h1:¬(c<1\/de 5<c):=by have:de 5=7:=by decide
                            omega
 have e1:(kk 5 k).kind=5:=rfl;have e2:(mm c m).code=c:=rfl;have e3:(mm c m).k2=m.k2:=rfl;have hb:eJ L n (kk 5 k) (mm c m)=dv L (kk 5 k) (mm c m):=by unfold eJ;rw[e1];rfl
 have hr:dI L n (kk 5 k) (mm c m)=if cX 5 c=true/\m.k2.kind≠1 then(240,cY,L)else dv L (kk 5 k) (mm c m):=by
  unfold dI;rw[e1,e2,e3,aa1 (by omega),aa1 h0,hb]
  by_cases h:cX 5 c=true/\m.k2.kind≠1
  ·rw[aa2 (.inr (.inr h)),aa2 h]
  ·rw[aa1 (fun hh=>by rcases hh with hh|hh|hh;exact h1 (.inl hh);exact h1 (.inr hh);exact h hh),aa1 h]
 unfold aP en eF;rw[hr];by_cases h:cX 5 c=true/\m.k2.kind≠1
 ·simp only[aa2 h];rfl
 ·simp only[aa1 h];rfl
theorem LR {L:List Obj}:∀(n:Nat) (w:Wk),0<=(QR L n w).kd/\(QR L n w).kd<=4
 |0,w=>by simp[QR]
 |n+1,w=>by
  unfold QR;split
  ·split<;>simp
  ·split
   ·split
    ·rename_i r heq;unfold mC at heq;split at heq
     ·simp at heq;rw[<-heq];simp
     ·split at heq
      ·split at heq
       ·simp at heq
       ·simp at heq;rw[<-heq];simp
      ·simp at heq;rw[<-heq];simp
    ·exact LR n _
   ·simp
theorem Iu {L:List Obj} {k:Key} {a n:Int} {w:Bool}:0<=bW L k a n w/\bW L k a n w<=6:=by
 have h:0<=(au L k a).kd/\(au L k a).kd<=4:=by
  unfold au;split
  ·exact LR _ _
  ·simp[YK]
 unfold bW;grind
def qL (L:List Obj) (n:Int) (k:Key) (m:bp):Bool:=decide (0<=n)&&fk L m&&bJ L k
def cJ (L:List Obj) (n:Int) (k:Key) (m:bp):Int:=
 if ai L=0 then 1 else if qL L n k m=false then 2 else if(ah L k).kind=6\/(ah L k).kind=7 then 241 else 0
def aG (L:List Obj) (n:Int) (k:Key) (m:bp):bp:=if cJ L n k m=0 then en L n (ah L k) (aH L m)else cY
def cW (L:List Obj) (n:Int) (k:Key) (m:bp):Bool:=decide (cJ L n k m=0)&&decide ((ah L k).kind=10)&&decide (m.code=1)
def ia (L:List Obj) (n:Int) (k:Key) (m:bp):List Obj:=if cJ L n k m=0 then eF L n (ah L k) (aH L m)else L
def PG:Ct:=s7 (ba sA (ba kA gJ)) (fun _=>none) fun x=> .bo (bJ (DG x.1) x.2.1)
def MG:ly (Int×Key×bp×Unit):=ba iA (ba kA (ba mA gJ))
theorem IP:gR MG:=aA dE (aA iI (aA zY bV))
def aaR:kq:=YE (uw MG) (fun x=>aw x.2.2.1.data) (fun L x=>aq L/\aw x.2.2.1.data) (fun L x=> .tp [jJ (aG L x.1 x.2.1 x.2.2.1),.bo (cW L x.1 x.2.1 x.2.2.1),.it .i64 (cJ L x.1 x.2.1 x.2.2.1)]) fun L x=>ia L x.1 x.2.1 x.2.2.1
def Vn (L:List Obj) (k:Key) (m:bp):Prop:=aq L/\aw m.data/\aV k=true
def Vc:kq:=fun args res K=>
 match args with
 | [a]=>match a with
   | .lp j off=>if off==0 then match az res j with
     | .blk t c=>if t==oP then match c with
       | .ag cl=>match cl with
         | [mv,sv,nv,kv]=>match AL mv with
           |some m=>match sv with
            | .lp i o2=>if o2==0&& !(i==j)then match rI .i64 nv with
              |some n=>match rK kv with
               |some k=>match az res i with
                | .store t2 e L=>if t2==tS&&e==eS then Vn L k m/\K (jJ (en L n k m)) (bP res i (.store tS eS (eF L n k m)))else False
                |_=>False
               |none=>False
              |none=>False
              else False
            |_=>False
           |none=>False
         |_=>False
       |_=>False
       else False
     |_=>False
     else False
   |_=>False
 |_=>False
theorem tH {L:List Obj} {k:Key}:aV (ah L k)=true:=by
 unfold ah;split
 ·rfl
 ·rename_i h;simp only[Bool.or_eq_true,not_or,Bool.not_eq_true',Bool.not_eq_false]at h;exact h.1.2
theorem qV {k:IntKind} {v:V} {n:Int} (h:rI k v=some n):kE v=true:=by
 cases v<;>first|rfl|simp[rI,toInt]at h
theorem P8 {v:V} {s:ByteArray} (h:EM v=some s):kE v=true:=by
 cases v<;>first|rfl|simp[EM]at h
theorem C9 {v:V} {k:Key} (h:rK v=some k):kE v=true:=by
 unfold rK at h;split at h
 ·rfl
 ·split at h
  case h_2=>simp at h
  repeat' (split at h<;>try(simp at h;done))
  rename_i h1 _ _ h2 _ _ h3 _ _ h4 _ _ h5 _ _ h6;simp[kE,lW,qV h1,qV h2,qV h3,qV h4,qV h5,qV h6]
 ·simp at h
theorem P7 {v:V} {m:bp} (h:AL v=some m):kE v=true:=by
 unfold AL at h;split at h
 case h_2=>simp at h
 split at h
 case h_2=>simp at h
 split at h
 case h_2=>simp at h
 rename_i hn;split at h
 case h_2=>simp at h
 rename_i hs;split at h
 case h_2=>simp at h
 split at h
 case h_2=>simp at h
 split at h
 case h_2=>simp at h
 rename_i hk;split at h
 case h_2=>simp at h
 rename_i hk';split at h<;>simp only[aaT,reduceCtorEq]at h
 rename_i hk'';simp[kE,lW,qV hn,P8 hs,C9 hk,C9 hk',C9 hk'']
theorem EX {P:Program} {f:Nat} {K KP:V->List aK->Prop} {t:Nat} {c c':V} {r:aK} (hr:r≠ .yet) (hc:∀J,cells J c=cells J c') (hc':∀K,ok K c->ok K c') (hct:cS c'=false)
  (h:an P f [.lp 0 0] [.ro (.blk t c'),r] K KP):an P f [.lp 0 0] [.ro (.blk t c),r] K KP:=by
 have hk:∀i (x:V),known [.ro (.blk t x),r] i↔i=0\/i=1:=fun i x=>by
  unfold known;rcases i with _|_|i<;>simp[az,hr]
 have hkk:∀i (x y:V),known [.ro (.blk t x),r] i->known [.ro (.blk t y),r] i:=fun i x y h=>(hk i y).2 ((hk i x).1 h)
 refine h.uU fun J fps w0 F0 w hH=>⟨J,fps,hH.weaken fun i hi=>⟨hkk i _ _ hi,fun fp hh=>?_⟩,Env.bD.refl _ _,fun i hi=>hkk i _ _ hi⟩
 rcases(hk i _).1 hi with rfl|rfl
 ·obtain⟨fp',⟨h1,h2,h3,h4⟩,h5⟩:=hh;exact⟨fp',⟨hc' _ (ef (fun i hi=>hkk i _ _ hi) _ h1),hct,h3,by rw[<-hc];exact h4⟩,h5⟩
 ·exact aK.oG _ hh fun i hi=>hkk i _ _ hi
theorem zd {P:Program} {f:Nat} {K KP:V->List aK->Prop} {c c' d d':V} {m:bp} {n:Int} {k:Key} {r:aK} (hr:r≠ .yet) (hc:∀J,den J c=den J c') (hc':∀K,ok K c->ok K c') (hct:cS c'=false) (hd:∀J,den J d=den J d') (hd':∀K,ok K d->ok K d') (hdt:cS d'=false)
  (h:an P f [.lp 0 0] [.ro (.blk oP (iU c' m n d' k)),r] K KP):an P f [.lp 0 0] [.ro (.blk oP (iU c m n d k)),r] K KP:=by
 refine EX hr (fun J=>by simp only[cells,iU,den,bn,hc,hd]) (fun K h1=>?_) rfl h
 obtain⟨⟨⟨⟨x1,x2⟩,_⟩,y,z,⟨⟨u1,u2⟩,_⟩,_⟩,v⟩:=h1;exact⟨⟨⟨⟨hc' _ x1,x2⟩,by cases c'<;>first| (simp[tv];done)|simp[cS]at hct⟩,y,z,⟨⟨hd' _ u1,u2⟩,by cases d'<;>first| (simp[tv];done)|simp[cS]at hdt⟩,trivial⟩,by simp[tv]⟩
theorem Nk {P:Program} {f:Nat} {K KP:V->List aK->Prop} {mv nv kv:V} {m:bp} {n:Int} {k:Key} {r:aK} (hr:r≠ .yet) (hm:AL mv=some m) (hn:rI .i64 nv=some n) (hk:rK kv=some k)
  (h:an P f [.lp 0 0] [.ro (.blk oP (iU (.it .i64 m.code) m n (.it .i64 k.kind) k)),r] K KP):an P f [.lp 0 0] [.ro (.blk oP (.ag [mv,.lp 1 0,nv,kv])),r] K KP:=by
 obtain⟨m1,m2⟩:=DA _ _ hm;obtain⟨n1,n2⟩:=gq .i64 _ _ hn;obtain⟨k1,k2⟩:=gI _ _ hk;refine EX hr (fun J=>?_) (fun K h1=>?_) rfl h
 ·simp only[cells,iU,den,bn,m1 J,n1 J,k1 J,jJ,Value.cells,eO,i64];simp
 ·obtain⟨⟨x,y,z,u,_⟩,_⟩:=h1;obtain⟨a1,a2,a3,a4,a5,a6⟩:=(k2 K u:k.wf);exact⟨⟨fT (m2 K x),y,n2 K z,⟨⟨a1,a2,a3,a4,a5,a6,trivial⟩,by simp[tv]⟩,trivial⟩,by simp[tv,jJ]⟩
def oc (a b:Int) (k:Key) (m:bp):Bool:=decide (k.kind=a)&&decide (m.code=b)
theorem yv {c:Int} {k:Key} (h:k.kind=c):kk c k=k:=by subst h;rfl
theorem It {c:Int} {m:bp} (h:m.code=c):mm c m=m:=by subst h;rfl
def odX (nid:Nat):V:= .mp nid
def Ib (nid:Nat):List aK:= [.mq [[1,1],[2,1],[2,2],[2,3],[2,4],[2,5],[2,6],[3,1],[3,2],[3,3],[3,4],[3,5],[4,1],[4,2],[4,3],[4,4],[4,5],[4,6],[5,1],[5,2],[5,3],[5,4],[5,5],[5,6],[5,7],[8,1],[8,2],[8,3],[9,1],[10,1]] [.fn 143 [],.fn 145 [],.fn 149 [],.fn 151 [],.fn 154 [],.fn 156 [],.fn 157 [],.fn 158 [],.fn 159 [],.fn 161 [],.fn 163 [],.fn 156 [],.fn 210 [.lp (nid+1) 0],.fn 210 [.lp (nid+1+1) 0],.fn 166 [],.fn 168 [],.fn 170 [],.fn 171 [],.fn 172 [],.fn 175 [],.fn 176 [],.fn 178 [],.fn 179 [],.fn 180 [],.fn 181 [],.fn 182 [],.fn 183 [],.fn 187 [],.fn 189 [],.fn 190 []],.blk 70 (.ci .i64 1),.blk 70 (.ci .i64 2)]
end Go.Sx
namespace Go.Proofs.YtlblcfaclmpekaaGreat
open Go.Sx
theorem Ob (k:Key) (r:Int) (hq:iK k r):
 ((!aV k||decide (r<0)||decide (7<r))=true->False)/\((!aV k||decide (r<0)||decide (7<r))=false->Key.mk k.kind k.oid k.count k.call (bk BinOp.or IntKind.i64 k.rights
   (bk BinOp.and IntKind.i64 r (fy k.kind))) k.value=jz k r):=by
 obtain⟨hk,h0,h7⟩:=hq;have hr:=jj hk;refine⟨fun h=>?_,fun _=>?_⟩
 ·simp[hk]at h;omega
 obtain⟨kind,oid,count,call,rights,value⟩:=k;simp only at hr⊢;unfold jz dn;by_cases h2:kind=2
 ·subst h2;have:=LU (a:=rights) (r:=r) (by have:fy 2=7:=rfl;omega) ⟨h0,h7⟩
  simp only[if_true,show fy 2=7 from rfl,this]
 ·by_cases h3:kind=3
  ·subst h3;have:=KJ (a:=rights) (r:=r) (by have:fy 3=1:=rfl;omega) ⟨h0,h7⟩
   simp only[show¬(3:Int)=2 by omega,if_false,if_true,show fy 3=1 from rfl,this]
  ·have hm:fy kind=0:=by unfold fy;simp[h2,h3]
   have hz:rights=0:=by omega
   subst hz;simp only[h2,h3,if_false,hm,Qf ⟨h0,h7⟩]
theorem FE:cz Tryz.prog 201 VA:=
 eQ (aA iI (aA dE bV)) (fun _=>rfl) fun a hq hok=>by
  obtain⟨k,r,_⟩:=a;exact bc (inl:=bx) (ann:=aQ) (ae zN ar) (Ob k r hq) (by kernel_rfl)
theorem KW (k:Key) (r:Int) (hq:iK k r):
 aba (decide (k.kind=2)) (Key.mk k.kind k.oid k.count k.call (iD k.rights r) k.value=jz k r) (aba (decide (k.kind=3)) ((nX 2/\aF IntKind.i64 (r.tmod 2))/\Key.mk k.kind k.oid k.count k.call (iD k.rights (r.tmod 2)) k.value=jz k r) (k=jz k r)):=by
 delta aba
 refine⟨fun h=>?_,fun h=>⟨fun h'=>⟨⟨by unfold nX;omega,pq _⟩,?_⟩,fun h'=>?_⟩⟩
 ·unfold jz;rw[aa2 (aaZ h)];rfl
 ·unfold jz;rw[aa1 (aaY h),aa2 (aaZ h')];rfl
 ·unfold jz;rw[aa1 (aaY h),aa1 (aaY h')]
theorem Fl:cz Tryz.prog 113 UQ:=
 eQ (aA iI (aA dE bV)) (fun _=>rfl) fun a hq hok=>by
  obtain⟨k,r,_⟩:=a;exact bc (inl:=bx) (ann:=aQ) (ae yE ar) (KW k r hq) (by kernel_rfl)
theorem TD (a b:Key) (ha:a.wf) (hb:b.wf):
 aba (!aV a|| !aV b) (false=k7 a b) (aba (decide (a.kind=0)||Bw a b) (true=k7 a b) ((pI a.kind&&decide (a.kind=b.kind)&&decide (a.oid=b.oid)&&decide (a.count=b.count)&&decide (bk BinOp.andNot IntKind.i64 b.rights a.rights=0))=k7 a b)):=by
 delta aba
 unfold k7;cases ha1:aV a
 ·simp
 cases hb1:aV b
 ·simp
 have hra:=jj ha1;have hrb:=jj hb1;refine⟨fun h=>by simp at h,fun _=>⟨fun h=>by simp only[h,Bool.true_and,Bool.true_or],fun h=>?_⟩⟩
 rw[h];simp only[Bool.true_and,Bool.false_or];by_cases hk:a.kind=b.kind
 ·by_cases h2:a.kind=2
  ·have m1:fy a.kind=7:=by rw[h2];rfl
   have m2:fy b.kind=7:=by rw[<-hk,h2];rfl
   rw[Ba (by omega) (by omega)]
   simp[pI,h2]
  ·by_cases h3:a.kind=3
   ·have m1:fy a.kind=1:=by rw[h3];rfl
    have m2:fy b.kind=1:=by rw[<-hk,h3];rfl
    rw[Ba (by omega) (by omega)]
    simp[pI,h3]
   ·simp[pI,h2,h3]
 ·simp[hk]
theorem S7:cz Tryz.prog 186 Pj:=
 pf gI gI (fun _ _=>rfl) fun a b ha hb=>bc (inl:=bx) (ann:=aQ) (ae zN ar) (TD a b ha hb) (by kernel_rfl)
theorem RM (a b:Key) (ha:a.wf) (hb:b.wf):
 aba (!decide (bB a=0)|| !decide (bB b=0)) (false=k7 a b) (aba (decide (a.kind=0)||Bw a b) (true=k7 a b) (((decide (a.kind=2)||decide (a.kind=3))&&decide (a.kind=b.kind)&&decide (a.oid=b.oid)&&decide (a.count=b.count)&&decide (iD a.rights b.rights=a.rights))=k7 a b)):=by
 delta aba
 unfold k7 bB;cases ha1:aV a
 ·simp
 cases hb1:aV b
 ·simp
 refine⟨fun h=>by simp at h,fun _=>⟨fun h=>by simp only[h,Bool.true_and,Bool.true_or],fun h=>?_⟩⟩
 rw[h];simp only[Bool.true_and,Bool.false_or]
theorem QX:cz Tryz.prog 87 Pj:=
 pf gI gI (fun _ _=>rfl) fun a b ha hb=>bc (inl:=bx) (ann:=aQ) (ae vN (ae yE ar)) (RM a b ha hb) (by kernel_rfl)
end Go.Proofs.YtlblcfaclmpekaaGreat
