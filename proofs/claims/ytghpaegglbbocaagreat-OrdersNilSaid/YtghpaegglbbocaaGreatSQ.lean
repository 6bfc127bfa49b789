import Derived.Test.YtghpaegglbbocaaGreatKS
import Derived.Test.YtghpaegglbbocaaGreatSpP
set_option linter.unusedSimpArgs false
set_option linter.unusedVariables false
namespace Go.Sx
def u5 (o:Obj):Bool:=decide (o.kind=1)&&decide ((o.slots.at 2).kind=1)&&decide (0<=(o.slots.at 2).value)&&decide ((o.slots.at 2).value<=2)
def jo (L:List Obj) (i:Int):Bool:=u5 (aR L i)
def p6 (L:List Obj) (i:Int):Int:=if jo L i=true then((aR L i).slots.at 2).value else 0
def qt (L:List Obj) (i:Int):Int:=if jo L i=true then((aR L i).slots.at 2).value else -1
def iQ:ly (Int×Unit):=bk iA iv
theorem R3:iB iQ:=aJ ft cF
def Tm:Ct:=sE (bk AR iQ) (fun _=>none) fun x=> .it .i64 (qt x.1 x.2.1)
def U4:Ct:=sE (bk sA iQ) (fun _=>none) fun x=> .tp [.it .i64 (p6 (DV x.1) x.2.1),.bo (jo (DV x.1) x.2.1)]
theorem Ja {L:List Obj} {i:Int} (h:i<0\/(L.length:Int)<=i):aR L i=free:=by
 unfold aR;rw[Yp fun e=>by have:=ky.1 e;omega]
theorem Dg (o:Obj):u5 o=true↔o.kind=1/\(o.slots.at 2).kind=1/\0<=(o.slots.at 2).value/\(o.slots.at 2).value<=2:=by
 unfold u5;simp only[Yj,Yk,and_assoc]
theorem Bh {L:List Obj} {i:Int} (h:jo L i=false):qt L i= -1/\p6 L i=0:=by
 unfold qt p6;rw[h];exact⟨rfl,rfl⟩
theorem A1 {L:List Obj} {i:Int} (h:jo L i=true):qt L i=((aR L i).slots.at 2).value/\p6 L i=((aR L i).slots.at 2).value:=by
 unfold qt p6;rw[h];exact⟨rfl,rfl⟩
theorem Be (o:Obj):(!decide (o.kind=1)|| !decide ((o.slots.at 2).kind=1)||decide ((o.slots.at 2).value<0)||decide (2<(o.slots.at 2).value))= !u5 o:=by
 have h:=Dg o;cases hp:u5 o with
 |true=>
  obtain⟨a,b,c,d⟩:=h.1 hp;have c':¬(o.slots.at 2).value<0:=by omega
  have d':¬2<(o.slots.at 2).value:=by omega
  simp[a,b,c',d']
 |false=>
  rw[Bool.not_false,Bool.or_eq_true,Bool.or_eq_true,Bool.or_eq_true,Bool.not_eq_true',Bool.not_eq_true',decide_eq_false_iff_not,decide_eq_false_iff_not,Yk,Yk];rw[hp]at h;have hn:¬(o.kind=1/\(o.slots.at 2).kind=1/\0<=(o.slots.at 2).value/\(o.slots.at 2).value<=2):=fun hh=>by have:=h.2 hh;simp at this
  omega
def ea (L:List Obj) (i st:Int):Int:=if aj L=0 then 1 else if¬(aR L i).kind=1 then 230 else if st<0\/2<st then 2 else 0
def E4 (o:Obj) (st:Int):Obj:= {o with slots:=o.slots.put 2 (cH st)}
def iK (L:List Obj) (i st:Int):List Obj:=if ea L i st=0 then cC L i.toNat (E4 (aR L i) st)else L
def mj (L:List Obj) (i st:Int):Bool:=decide (ea L i st=0)
def Vp:ly (Int×Int×Unit):=bk iA (bk iA iv)
theorem IH:iB Vp:=aJ ft (aJ ft cF)
def Ul:kI:=zm (wO Vp) (fun L _=>aq L) (fun L x=>mj L x.1 x.2.1) (fun L x=>iK L x.1 x.2.1) fun L x=> [.it .i64 (ea L x.1 x.2.1)]
def Vd:kI:=GW (wO Vp) (fun L _=>aq L) (fun L x=> .it .i64 (ea L x.1 x.2.1)) fun L x=>iK L x.1 x.2.1
end Go.Sx
namespace Go.Sx
structure bm where
 code:Int
 data:ByteArray
 k0:Key
 k1:Key
 k2:Key
def jR (m:bm):V:= .ag [.it .i64 m.code,.st m.data,.ag [.key m.k0,.key m.k1,.key m.k2]]
def dg:bm:=⟨0,⟨#[]⟩,void,void,void⟩
def yB (v:V):Option bm:=
 match v with
 | .ag l=>match l with
   | [a,b,c]=>match rI .i64 a with
     |some n=>match H2 b with
      |some s=>match c with
       | .ag l'=>match l' with
         | [x,y,z]=>match rK x with
           |some k=>match rK y with
            |some k'=>match rK z with
             |some k''=>some ⟨n,s,k,k',k''⟩
             |none=>none
            |none=>none
           |none=>none
         |_=>none
       |_=>none
      |none=>none
     |none=>none
   |_=>none
 |_=>none
theorem tf:py yB jR:=by
 intro v x h;unfold yB at h;split at h
 case h_2=>simp at h
 split at h
 case h_2=>simp at h
 rename_i a b c;split at h
 case h_2=>simp at h
 rename_i n hn;split at h
 case h_2=>simp at h
 rename_i s hs;split at h
 case h_2=>simp at h
 split at h
 case h_2=>simp at h
 rename_i p q r;split at h
 case h_2=>simp at h
 rename_i k hk;split at h
 case h_2=>simp at h
 rename_i k' hk';split at h<;>simp only[Yh,reduceCtorEq]at h
 rename_i k'' hk'';subst h;refine⟨fun J=>?_,fun K hK=>?_⟩
 ·simp only[den,jR,bd,(fy .i64 _ _ hn).1 J,(Bi _ _ hs).1 J,(fz _ _ hk).1 J,(fz _ _ hk').1 J,(fz _ _ hk'').1 J]
 ·obtain⟨h1,h2⟩:=hK;obtain⟨g1,g2⟩:=h1.2.2.1;exact⟨⟨(fy .i64 _ _ hn).2 K h1.1,(Bi _ _ hs).2 K h1.2.1,⟨⟨(fz _ _ hk).2 K g1.1,(fz _ _ hk').2 K g1.2.1,(fz _ _ hk'').2 K g1.2.2.1,trivial⟩,by simp[rr]⟩,trivial⟩,by simp[rr]⟩
def mA:Arg bm:=DI yB jR
theorem Gg:nM mA:=ug tf (fun _=>rfl) fun v x h=>by cases v<;>simp[yB]at h;rfl
def rv (L:List Obj) (m:bm):Bool:=decide (bW m.data<=32)&&cZ L m.k0&&cZ L m.k1&&cZ L m.k2
def aL (L:List Obj) (m:bm):bm:=⟨m.code,m.data,ae L m.k0,ae L m.k1,ae L m.k2⟩
def Sv:Ct:=sE (bk AR (bk mA iv)) (fun x=>some (aw x.2.1.data)) fun x=> .bo (rv x.1 x.2.1)
def Sg:Ct:=sE (bk AR (bk mA iv)) (fun _=>none) fun x=>jR (aL x.1 x.2.1)
abbrev tM:Nat:=28
def DP:Ct:=fun res _ xs=>match xs with
 | [a]=>match rS tS eS res a with
   |some (_,L)=>match L with
    | []=>some (none,.ci .i64 0,[])
    |_=>none
   |none=>none
 |_=>none
theorem Pw {P:Program} {f:Nat} (h:ck P f DK):ck P f DP:=by
 intro J fps res K w0 F0 w nid args q x new hH hargs hg hq hfr;unfold DP at hg;split at hg
 case h_2=>simp at hg
 rename_i a;split at hg
 case h_2=>simp at hg
 rename_i o L hr;split at hg<;>simp only[Yh,Yi,reduceCtorEq]at hg
 obtain⟨rfl,rfl,rfl⟩:=hg;obtain⟨h1,h2⟩:=h J fps res K w0 F0 w nid [a] none (.it .i64 (an [])) [] hH hargs (by unfold DK Ug;simp only[hr]) trivial hfr
 refine⟨h1.mono ?_,h2⟩;rintro e w' ⟨v,he,ρ',g,hv,_⟩
 refine⟨v,he,ρ',g,hv,?_⟩;simp[ok,bY]
end Go.Sx
set_option maxRecDepth 100000
namespace Go.Sx
theorem JB {L:List Obj} {i:Int} (h:(aR L i).kind=1):0<=i/\i<(L.length:Int)/\aR L i=ah L i.toNat free:=by
 by_cases hr:i<0\/(L.length:Int)<=i
 ·rw[Ja hr]at h;simp[free]at h
 ·exact⟨by omega,by omega,gG (by omega) (by omega)⟩
theorem Me {o:Obj} {n st:Int} (h:bT o n=true) (hk:o.kind=1):bT (E4 o st) n=true:=by
 have hn:=(fj.1 h).1;exact A4 h hk (PB (by omega) (vf h hk) (wx (by omega) _))
theorem RP {L:List Obj} {i st:Int} (h:ea L i st=0):(0<=i/\i<(L.length:Int))/\aR L i=ah L i.toNat free/\(ah L i.toNat free).kind=1/\0<=st/\st<=2:=by
 unfold ea at h;split at h
 ·omega
 ·split at h
  ·omega
  ·split at h
   ·omega
   ·rename_i h1 h2 h3;have h2:(aR L i).kind=1:=by omega
    obtain⟨a,b,c⟩:=JB h2;exact⟨⟨a,b⟩,c,by rw[<-c];exact h2,by omega,by omega⟩
theorem Uk {L:List Obj} {i st:Int} (hL:aq L):aq (iK L i st):=by
 unfold iK;split
 ·rename_i h;obtain⟨⟨a,b⟩,c,d,_⟩:=RP h;rw[c];exact nk hL (Me (dY hL _ (by omega)) d)
 ·exact hL
theorem Eh {L:List Obj} {i st e:Int} (h:ea L i st=e) (he:e≠0):e=ea L i st/\L=iK L i st:=⟨h.symm,by unfold iK;rw[h,Yp he]⟩
theorem Se {L:List Obj} {i st:Int} (h:aj L=0):ea L i st=1:=by unfold ea;rw[Yq h]
theorem Fp {L:List Obj} {i st:Int} (h:aj L≠0) (h2:¬(aR L i).kind=1):ea L i st=230:=by unfold ea;rw[Yp h,Yq h2]
theorem RX {L:List Obj} {i st:Int} (h:aj L≠0) (h2:(aR L i).kind=1) (h3:st<0\/2<st):ea L i st=2:=by unfold ea;rw[Yp h,Yp (by omega),Yq h3]
theorem R8 {L:List Obj} {i st:Int} (h:aj L≠0) (h2:(aR L i).kind=1) (h3:¬(st<0\/2<st)):ea L i st=0:=by unfold ea;rw[Yp h,Yp (by omega),Yp h3]
theorem Ss {L:List Obj} {i st:Int} (hL:aq L) (h:ea L i st=0):eJ L i (E4 (aR L i) st)=0/\cV L i (E4 (aR L i) st)=iK L i st:=by
 obtain⟨⟨a,b⟩,c,d,_⟩:=RP h;obtain⟨p1,p2⟩:=nt a b (Me (st:=st) (dY hL _ (by omega)) d)
 rw[c,p1,p2];refine⟨rfl,?_⟩;unfold iK;rw[Yq h,c]
theorem Ot {L:List Obj} {i:Int} (hL:aq L) (h0:0<=i) (h1:i<(L.length:Int)):dL L i:=⟨h0,h1,by have:=(kh hL).2;unfold aj;omega⟩
theorem QT {L:List Obj} {i:Int} (h:(decide (i<0)||decide (b9 (aj L)<=i)|| !decide ((ah L i.toNat free).kind=1))=true):¬(aR L i).kind=1:=fun hk=>by
 obtain⟨a,b,c⟩:=JB hk;rw[c]at hk;have hb:¬b9 (aj L)<=i:=by unfold b9 aj;omega
 rw[decide_eq_false (by omega:¬i<0),decide_eq_false hb,decide_eq_true hk]at h
 simp at h
theorem Di {L:List Obj} {i:Int} (h:(decide (i<0)||decide (b9 (aj L)<=i)|| !decide ((ah L i.toNat free).kind=1))=false):0<=i/\i<(L.length:Int)/\aR L i=ah L i.toNat free/\(aR L i).kind=1:=by
 simp only[Bool.or_eq_false_iff,decide_eq_false_iff_not,Bool.not_eq_false',Yk]at h;obtain⟨⟨h1,h2⟩,h3⟩:=h;unfold b9 aj at h2;have e:=gG (L:=L) (j:=i) (by omega) (by omega)
 exact⟨by omega,by omega,e,by rw[e];exact h3⟩
section
variable {L:List Obj} {i:Int} {k:Key} {md:Int} {m:bm}
end
end Go.Sx
