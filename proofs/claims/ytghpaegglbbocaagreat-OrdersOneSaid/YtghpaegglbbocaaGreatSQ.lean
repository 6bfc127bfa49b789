import Derived.Test.YtghpaegglbbocaaGreatKS
import Derived.Test.YtghpaegglbbocaaGreatSpP
set_option linter.unusedSimpArgs false
set_option linter.unusedVariables false
namespace Go.Sx
def uZ (o:Obj):Bool:=decide (o.kind=1)&&decide ((o.slots.at 2).kind=1)&&decide (0<=(o.slots.at 2).value)&&decide ((o.slots.at 2).value<=2)
def jr (L:List Obj) (i:Int):Bool:=uZ (aR L i)
def pE (L:List Obj) (i:Int):Int:=if jr L i=true then((aR L i).slots.at 2).value else 0
def qx (L:List Obj) (i:Int):Int:=if jr L i=true then((aR L i).slots.at 2).value else -1
def iQ:lA (Int×Unit):=bk iA iv
theorem Se:iy iQ:=aJ ft cF
def Te:Ct:=sF (bk Bq iQ) (fun _=>none) fun x=> .it .i64 (qx x.1 x.2.1)
def Wi:Ct:=sF (bk sA iQ) (fun _=>none) fun x=> .tp [.it .i64 (pE (Ei x.1) x.2.1),.bo (jr (Ei x.1) x.2.1)]
theorem Lt {L:List Obj} {i:Int} (h:i<0\/(L.length:Int)<=i):aR L i=free:=by
 unfold aR;rw[Yu fun e=>by have:=kx.1 e;omega]
theorem Cr (o:Obj):uZ o=true↔o.kind=1/\(o.slots.at 2).kind=1/\0<=(o.slots.at 2).value/\(o.slots.at 2).value<=2:=by
 unfold uZ;simp only[Yo,Yp,and_assoc]
theorem BR {L:List Obj} {i:Int} (h:jr L i=false):qx L i= -1/\pE L i=0:=by
 unfold qx pE;rw[h];exact⟨rfl,rfl⟩
theorem AF {L:List Obj} {i:Int} (h:jr L i=true):qx L i=((aR L i).slots.at 2).value/\pE L i=((aR L i).slots.at 2).value:=by
 unfold qx pE;rw[h];exact⟨rfl,rfl⟩
theorem Bf (o:Obj):(!decide (o.kind=1)|| !decide ((o.slots.at 2).kind=1)||decide ((o.slots.at 2).value<0)||decide (2<(o.slots.at 2).value))= !uZ o:=by
 have h:=Cr o;cases hp:uZ o with
 |true=>
  obtain⟨a,b,c,d⟩:=h.1 hp;have c':¬(o.slots.at 2).value<0:=by omega
  have d':¬2<(o.slots.at 2).value:=by omega
  simp[a,b,c',d']
 |false=>
  rw[Bool.not_false,Bool.or_eq_true,Bool.or_eq_true,Bool.or_eq_true,Bool.not_eq_true',Bool.not_eq_true',decide_eq_false_iff_not,decide_eq_false_iff_not,Yp,Yp];rw[hp]at h;have hn:¬(o.kind=1/\(o.slots.at 2).kind=1/\0<=(o.slots.at 2).value/\(o.slots.at 2).value<=2):=fun hh=>by have:=h.2 hh;simp at this
  omega
def ea (L:List Obj) (i st:Int):Int:=if aj L=0 then 1 else if¬(aR L i).kind=1 then 230 else if st<0\/2<st then 2 else 0
def Gc (o:Obj) (st:Int):Obj:= {o with slots:=o.slots.put 2 (cI st)}
def iK (L:List Obj) (i st:Int):List Obj:=if ea L i st=0 then cC L i.toNat (Gc (aR L i) st)else L
def my (L:List Obj) (i st:Int):Bool:=decide (ea L i st=0)
def Vr:lA (Int×Int×Unit):=bk iA (bk iA iv)
theorem MA:iy Vr:=aJ ft (aJ ft cF)
def SL:kJ:=Ar (wv Vr) (fun L _=>aq L) (fun L x=>my L x.1 x.2.1) (fun L x=>iK L x.1 x.2.1) fun L x=> [.it .i64 (ea L x.1 x.2.1)]
def Vy:kJ:=G0 (wv Vr) (fun L _=>aq L) (fun L x=> .it .i64 (ea L x.1 x.2.1)) fun L x=>iK L x.1 x.2.1
end Go.Sx
namespace Go.Sx
structure bm where
 code:Int
 data:ByteArray
 k0:Key
 k1:Key
 k2:Key
def jS (m:bm):V:= .ag [.it .i64 m.code,.st m.data,.ag [.key m.k0,.key m.k1,.key m.k2]]
def dg:bm:=⟨0,⟨#[]⟩,void,void,void⟩
def xU (v:V):Option bm:=
 match v with
 | .ag l=>match l with
   | [a,b,c]=>match rI .i64 a with
     |some n=>match Hu b with
      |some s=>match c with
       | .ag l'=>match l' with
         | [x,y,z]=>match rK x with
           |some k=>match rK y with
            |some k'=>match rK z with
             |some k''=>some ⟨n,s,k,k',k''⟩
             |none=>none
            |none=>none
           |none=>none
         |_=>none
       |_=>none
      |none=>none
     |none=>none
   |_=>none
 |_=>none
theorem tz:pB xU jS:=by
 intro v x h;unfold xU at h;split at h
 case h_2=>simp at h
 split at h
 case h_2=>simp at h
 rename_i a b c;split at h
 case h_2=>simp at h
 rename_i n hn;split at h
 case h_2=>simp at h
 rename_i s hs;split at h
 case h_2=>simp at h
 split at h
 case h_2=>simp at h
 rename_i p q r;split at h
 case h_2=>simp at h
 rename_i k hk;split at h
 case h_2=>simp at h
 rename_i k' hk';split at h<;>simp only[Ym,reduceCtorEq]at h
 rename_i k'' hk'';subst h;refine⟨fun J=>?_,fun K hK=>?_⟩
 ·simp only[den,jS,bf,(fz .i64 _ _ hn).1 J,(AU _ _ hs).1 J,(fy _ _ hk).1 J,(fy _ _ hk').1 J,(fy _ _ hk'').1 J]
 ·obtain⟨h1,h2⟩:=hK;obtain⟨g1,g2⟩:=h1.2.2.1;exact⟨⟨(fz .i64 _ _ hn).2 K h1.1,(AU _ _ hs).2 K h1.2.1,⟨⟨(fy _ _ hk).2 K g1.1,(fy _ _ hk').2 K g1.2.1,(fy _ _ hk'').2 K g1.2.2.1,trivial⟩,by simp[rv]⟩,trivial⟩,by simp[rv]⟩
def mA:Arg bm:=EY xU jS
theorem Ff:oq mA:=tT tz (fun _=>rfl) fun v x h=>by cases v<;>simp[xU]at h;rfl
def rH (L:List Obj) (m:bm):Bool:=decide (bW m.data<=32)&&cZ L m.k0&&cZ L m.k1&&cZ L m.k2
def aL (L:List Obj) (m:bm):bm:=⟨m.code,m.data,ae L m.k0,ae L m.k1,ae L m.k2⟩
def UB:Ct:=sF (bk Bq (bk mA iv)) (fun x=>some (aw x.2.1.data)) fun x=> .bo (rH x.1 x.2.1)
def T8:Ct:=sF (bk Bq (bk mA iv)) (fun _=>none) fun x=>jS (aL x.1 x.2.1)
abbrev tM:Nat:=28
def EZ:Ct:=fun res _ xs=>match xs with
 | [a]=>match rS tS eS res a with
   |some (_,L)=>match L with
    | []=>some (none,.ci .i64 0,[])
    |_=>none
   |none=>none
 |_=>none
theorem Rn {P:Program} {f:Nat} (h:ck P f Ex):ck P f EZ:=by
 intro J fps res K w0 F0 w nid args q x new hH hargs hg hq hfr;unfold EZ at hg;split at hg
 case h_2=>simp at hg
 rename_i a;split at hg
 case h_2=>simp at hg
 rename_i o L hr;split at hg<;>simp only[Ym,Yn,reduceCtorEq]at hg
 obtain⟨rfl,rfl,rfl⟩:=hg;obtain⟨h1,h2⟩:=h J fps res K w0 F0 w nid [a] none (.it .i64 (an [])) [] hH hargs (by unfold Ex Uo;simp only[hr]) trivial hfr
 refine⟨h1.mono ?_,h2⟩;rintro e w' ⟨v,he,ρ',g,hv,_⟩
 refine⟨v,he,ρ',g,hv,?_⟩;simp[ok,bY]
end Go.Sx
set_option maxRecDepth 100000
namespace Go.Sx
theorem JN {L:List Obj} {i:Int} (h:(aR L i).kind=1):0<=i/\i<(L.length:Int)/\aR L i=ah L i.toNat free:=by
 by_cases hr:i<0\/(L.length:Int)<=i
 ·rw[Lt hr]at h;simp[free]at h
 ·exact⟨by omega,by omega,gD (by omega) (by omega)⟩
theorem Jr {o:Obj} {n st:Int} (h:bT o n=true) (hk:o.kind=1):bT (Gc o st) n=true:=by
 have hn:=(fg.1 h).1;exact AY h hk (ON (by omega) (uX h hk) (wG (by omega) _))
theorem Si {L:List Obj} {i st:Int} (h:ea L i st=0):(0<=i/\i<(L.length:Int))/\aR L i=ah L i.toNat free/\(ah L i.toNat free).kind=1/\0<=st/\st<=2:=by
 unfold ea at h;split at h
 ·omega
 ·split at h
  ·omega
  ·split at h
   ·omega
   ·rename_i h1 h2 h3;have h2:(aR L i).kind=1:=by omega
    obtain⟨a,b,c⟩:=JN h2;exact⟨⟨a,b⟩,c,by rw[<-c];exact h2,by omega,by omega⟩
theorem UN {L:List Obj} {i st:Int} (hL:aq L):aq (iK L i st):=by
 unfold iK;split
 ·rename_i h;obtain⟨⟨a,b⟩,c,d,_⟩:=Si h;rw[c];exact m5 hL (Jr (dW hL _ (by omega)) d)
 ·exact hL
theorem E0 {L:List Obj} {i st e:Int} (h:ea L i st=e) (he:e≠0):e=ea L i st/\L=iK L i st:=⟨h.symm,by unfold iK;rw[h,Yu he]⟩
theorem RU {L:List Obj} {i st:Int} (h:aj L=0):ea L i st=1:=by unfold ea;rw[Yv h]
theorem Ft {L:List Obj} {i st:Int} (h:aj L≠0) (h2:¬(aR L i).kind=1):ea L i st=230:=by unfold ea;rw[Yu h,Yv h2]
theorem Sh {L:List Obj} {i st:Int} (h:aj L≠0) (h2:(aR L i).kind=1) (h3:st<0\/2<st):ea L i st=2:=by unfold ea;rw[Yu h,Yu (by omega),Yv h3]
theorem R2 {L:List Obj} {i st:Int} (h:aj L≠0) (h2:(aR L i).kind=1) (h3:¬(st<0\/2<st)):ea L i st=0:=by unfold ea;rw[Yu h,Yu (by omega),Yu h3]
theorem Tk {L:List Obj} {i st:Int} (hL:aq L) (h:ea L i st=0):eU L i (Gc (aR L i) st)=0/\cW L i (Gc (aR L i) st)=iK L i st:=by
 obtain⟨⟨a,b⟩,c,d,_⟩:=Si h;obtain⟨p1,p2⟩:=nn a b (Jr (st:=st) (dW hL _ (by omega)) d)
 rw[c,p1,p2];refine⟨rfl,?_⟩;unfold iK;rw[Yv h,c]
theorem Oh {L:List Obj} {i:Int} (hL:aq L) (h0:0<=i) (h1:i<(L.length:Int)):dS L i:=⟨h0,h1,by have:=(kG hL).2;unfold aj;omega⟩
theorem N1 {L:List Obj} {i:Int} (h:(decide (i<0)||decide (b9 (aj L)<=i)|| !decide ((ah L i.toNat free).kind=1))=true):¬(aR L i).kind=1:=fun hk=>by
 obtain⟨a,b,c⟩:=JN hk;rw[c]at hk;have hb:¬b9 (aj L)<=i:=by unfold b9 aj;omega
 rw[decide_eq_false (by omega:¬i<0),decide_eq_false hb,decide_eq_true hk]at h
 simp at h
theorem CX {L:List Obj} {i:Int} (h:(decide (i<0)||decide (b9 (aj L)<=i)|| !decide ((ah L i.toNat free).kind=1))=false):0<=i/\i<(L.length:Int)/\aR L i=ah L i.toNat free/\(aR L i).kind=1:=by
 simp only[Bool.or_eq_false_iff,decide_eq_false_iff_not,Bool.not_eq_false',Yp]at h;obtain⟨⟨h1,h2⟩,h3⟩:=h;unfold b9 aj at h2;have e:=gD (L:=L) (j:=i) (by omega) (by omega)
 exact⟨by omega,by omega,e,by rw[e];exact h3⟩
section
variable {L:List Obj} {i:Int} {k:Key} {md:Int} {m:bm}
end
end Go.Sx
