import Derived.Test.YtghpaegglbbocaaGreatKS
import Derived.Test.YtghpaegglbbocaaGreatSpP
namespace Go.Sx
def uM (o:Obj):Bool:=decide (o.kind=1)&&decide ((o.slots.at 2).kind=1)&&decide (0<=(o.slots.at 2).value)&&decide ((o.slots.at 2).value<=2)
def jr (L:List Obj) (i:Int):Bool:=uM (aR L i)
def qt (L:List Obj) (i:Int):Int:=if jr L i=true then((aR L i).slots.at 2).value else 0
def qh (L:List Obj) (i:Int):Int:=if jr L i=true then((aR L i).slots.at 2).value else -1
def iQ:lz (Int×Unit):=bk iA iw
theorem Sd:iu iQ:=aJ fm cF
def Un:Ct:=sF (bk BI iQ) (fun _=>none) fun x=> .it .i64 (qh x.1 x.2.1)
def Vx:Ct:=sF (bk sA iQ) (fun _=>none) fun x=> .tp [.it .i64 (qt (DJ x.1) x.2.1),.bo (jr (DJ x.1) x.2.1)]
theorem Lx {L:List Obj} {i:Int} (h:i<0\/(L.length:Int)<=i):aR L i=free:=by
 unfold aR;rw[Yp fun e=>by have:=ki.1 e;omega]
theorem Cj (o:Obj):uM o=true↔o.kind=1/\(o.slots.at 2).kind=1/\0<=(o.slots.at 2).value/\(o.slots.at 2).value<=2:=by
 unfold uM;simp only[Yj,Yk,and_assoc]
theorem A9 {L:List Obj} {i:Int} (h:jr L i=false):qh L i= -1/\qt L i=0:=by
 unfold qh qt;rw[h];exact⟨rfl,rfl⟩
theorem BE {L:List Obj} {i:Int} (h:jr L i=true):qh L i=((aR L i).slots.at 2).value/\qt L i=((aR L i).slots.at 2).value:=by
 unfold qh qt;rw[h];exact⟨rfl,rfl⟩
theorem AJ (o:Obj):(!decide (o.kind=1)|| !decide ((o.slots.at 2).kind=1)||decide ((o.slots.at 2).value<0)||decide (2<(o.slots.at 2).value))= !uM o:=by
 have h:=Cj o;cases hp:uM o with
 |true=>
  obtain⟨a,b,c,d⟩:=h.1 hp;have c':¬(o.slots.at 2).value<0:=by omega
  have d':¬2<(o.slots.at 2).value:=by omega
  simp[a,b,c',d']
 |false=>
  rw[Bool.not_false,Bool.or_eq_true,Bool.or_eq_true,Bool.or_eq_true,Bool.not_eq_true',Bool.not_eq_true',decide_eq_false_iff_not,decide_eq_false_iff_not,Yk,Yk];rw[hp]at h;have hn:¬(o.kind=1/\(o.slots.at 2).kind=1/\0<=(o.slots.at 2).value/\(o.slots.at 2).value<=2):=fun hh=>by have:=h.2 hh;simp at this
  omega
def dW (L:List Obj) (i st:Int):Int:=if ai L=0 then 1 else if¬(aR L i).kind=1 then 230 else if st<0\/2<st then 2 else 0
def Gn (o:Obj) (st:Int):Obj:= {o with slots:=o.slots.put 2 (cH st)}
def iJ (L:List Obj) (i st:Int):List Obj:=if dW L i st=0 then cB L i.toNat (Gn (aR L i) st)else L
def mn (L:List Obj) (i st:Int):Bool:=decide (dW L i st=0)
def Vw:lz (Int×Int×Unit):=bk iA (bk iA iw)
theorem Iw:iu Vw:=aJ fm (aJ fm cF)
def SC:kH:=An (wc Vw) (fun L _=>aq L) (fun L x=>mn L x.1 x.2.1) (fun L x=>iJ L x.1 x.2.1) fun L x=> [.it .i64 (dW L x.1 x.2.1)]
def VH:kH:=HN (wc Vw) (fun L _=>aq L) (fun L x=> .it .i64 (dW L x.1 x.2.1)) fun L x=>iJ L x.1 x.2.1
end Go.Sx
namespace Go.Sx
structure bm where
 code:Int
 data:ByteArray
 k0:Key
 k1:Key
 k2:Key
def jP (m:bm):V:= .ag [.it .i64 m.code,.st m.data,.ag [.key m.k0,.key m.k1,.key m.k2]]
def dg:bm:=⟨0,⟨#[]⟩,void,void,void⟩
def xE (v:V):Option bm:=
 match v with
 | .ag l=>match l with
   | [a,b,c]=>match rI .i64 a with
     |some n=>match HM b with
      |some s=>match c with
       | .ag l'=>match l' with
         | [x,y,z]=>match rK x with
           |some k=>match rK y with
            |some k'=>match rK z with
             |some k''=>some ⟨n,s,k,k',k''⟩
             |none=>none
            |none=>none
           |none=>none
         |_=>none
       |_=>none
      |none=>none
     |none=>none
   |_=>none
 |_=>none
theorem tQ:pz xE jP:=by
 intro v x h;unfold xE at h;split at h
 case h_2=>simp at h
 split at h
 case h_2=>simp at h
 rename_i a b c;split at h
 case h_2=>simp at h
 rename_i n hn;split at h
 case h_2=>simp at h
 rename_i s hs;split at h
 case h_2=>simp at h
 split at h
 case h_2=>simp at h
 rename_i p q r;split at h
 case h_2=>simp at h
 rename_i k hk;split at h
 case h_2=>simp at h
 rename_i k' hk';split at h<;>simp only[Yh,reduceCtorEq]at h
 rename_i k'' hk'';subst h;refine⟨fun J=>?_,fun K hK=>?_⟩
 ·simp only[den,jP,bd,(fy .i64 _ _ hn).1 J,(BB _ _ hs).1 J,(fz _ _ hk).1 J,(fz _ _ hk').1 J,(fz _ _ hk'').1 J]
 ·obtain⟨h1,h2⟩:=hK;obtain⟨g1,g2⟩:=h1.2.2.1;exact⟨⟨(fy .i64 _ _ hn).2 K h1.1,(BB _ _ hs).2 K h1.2.1,⟨⟨(fz _ _ hk).2 K g1.1,(fz _ _ hk').2 K g1.2.1,(fz _ _ hk'').2 K g1.2.2.1,trivial⟩,by simp[rr]⟩,trivial⟩,by simp[rr]⟩
def mA:Arg bm:=EE xE jP
theorem E5:nK mA:=ue tQ (fun _=>rfl) fun v x h=>by cases v<;>simp[xE]at h;rfl
def rE (L:List Obj) (m:bm):Bool:=decide (bW m.data<=32)&&cZ L m.k0&&cZ L m.k1&&cZ L m.k2
def aL (L:List Obj) (m:bm):bm:=⟨m.code,m.data,ae L m.k0,ae L m.k1,ae L m.k2⟩
def T4:Ct:=sF (bk BI (bk mA iw)) (fun x=>some (aw x.2.1.data)) fun x=> .bo (rE x.1 x.2.1)
def Uc:Ct:=sF (bk BI (bk mA iw)) (fun _=>none) fun x=>jP (aL x.1 x.2.1)
abbrev tM:Nat:=28
def Ev:Ct:=fun res _ xs=>match xs with
 | [a]=>match rS tS eS res a with
   |some (_,L)=>match L with
    | []=>some (none,.ci .i64 0,[])
    |_=>none
   |none=>none
 |_=>none
theorem QO {P:Program} {f:Nat} (h:ck P f Et):ck P f Ev:=by
 intro J fps res K w0 F0 w nid args q x new hH hargs hg hq hfr;unfold Ev at hg;split at hg
 case h_2=>simp at hg
 rename_i a;split at hg
 case h_2=>simp at hg
 rename_i o L hr;split at hg<;>simp only[Yh,Yi,reduceCtorEq]at hg
 obtain⟨rfl,rfl,rfl⟩:=hg;obtain⟨h1,h2⟩:=h J fps res K w0 F0 w nid [a] none (.it .i64 (an [])) [] hH hargs (by unfold Et Tm;simp only[hr]) trivial hfr
 refine⟨h1.mono ?_,h2⟩;rintro e w' ⟨v,he,ρ',g,hv,_⟩
 refine⟨v,he,ρ',g,hv,?_⟩;simp[ok,bY]
end Go.Sx
set_option maxRecDepth 100000
namespace Go.Sx
theorem Ls {L:List Obj} {i:Int} (h:(aR L i).kind=1):0<=i/\i<(L.length:Int)/\aR L i=ah L i.toNat free:=by
 by_cases hr:i<0\/(L.length:Int)<=i
 ·rw[Lx hr]at h;simp[free]at h
 ·exact⟨by omega,by omega,gE (by omega) (by omega)⟩
theorem LK {o:Obj} {n st:Int} (h:bT o n=true) (hk:o.kind=1):bT (Gn o st) n=true:=by
 have hn:=(fg.1 h).1;exact Ax h hk (N8 (by omega) (uY h hk) (wT (by omega) _))
theorem RP {L:List Obj} {i st:Int} (h:dW L i st=0):(0<=i/\i<(L.length:Int))/\aR L i=ah L i.toNat free/\(ah L i.toNat free).kind=1/\0<=st/\st<=2:=by
 unfold dW at h;split at h
 ·omega
 ·split at h
  ·omega
  ·split at h
   ·omega
   ·rename_i h1 h2 h3;have h2:(aR L i).kind=1:=by omega
    obtain⟨a,b,c⟩:=Ls h2;exact⟨⟨a,b⟩,c,by rw[<-c];exact h2,by omega,by omega⟩
theorem Tc {L:List Obj} {i st:Int} (hL:aq L):aq (iJ L i st):=by
 unfold iJ;split
 ·rename_i h;obtain⟨⟨a,b⟩,c,d,_⟩:=RP h;rw[c];exact nf hL (LK (dY hL _ (by omega)) d)
 ·exact hL
theorem DI {L:List Obj} {i st e:Int} (h:dW L i st=e) (he:e≠0):e=dW L i st/\L=iJ L i st:=⟨h.symm,by unfold iJ;rw[h,Yp he]⟩
theorem RU {L:List Obj} {i st:Int} (h:ai L=0):dW L i st=1:=by unfold dW;rw[Yq h]
theorem Fs {L:List Obj} {i st:Int} (h:ai L≠0) (h2:¬(aR L i).kind=1):dW L i st=230:=by unfold dW;rw[Yp h,Yq h2]
theorem RS {L:List Obj} {i st:Int} (h:ai L≠0) (h2:(aR L i).kind=1) (h3:st<0\/2<st):dW L i st=2:=by unfold dW;rw[Yp h,Yp (by omega),Yq h3]
theorem R0 {L:List Obj} {i st:Int} (h:ai L≠0) (h2:(aR L i).kind=1) (h3:¬(st<0\/2<st)):dW L i st=0:=by unfold dW;rw[Yp h,Yp (by omega),Yp h3]
theorem SY {L:List Obj} {i st:Int} (hL:aq L) (h:dW L i st=0):eU L i (Gn (aR L i) st)=0/\cW L i (Gn (aR L i) st)=iJ L i st:=by
 obtain⟨⟨a,b⟩,c,d,_⟩:=RP h;obtain⟨p1,p2⟩:=nw a b (LK (st:=st) (dY hL _ (by omega)) d)
 rw[c,p1,p2];refine⟨rfl,?_⟩;unfold iJ;rw[Yq h,c]
theorem Rs {L:List Obj} {i:Int} (hL:aq L) (h0:0<=i) (h1:i<(L.length:Int)):dR L i:=⟨h0,h1,by have:=(kz hL).2;unfold ai;omega⟩
theorem QR {L:List Obj} {i:Int} (h:(decide (i<0)||decide (b9 (ai L)<=i)|| !decide ((ah L i.toNat free).kind=1))=true):¬(aR L i).kind=1:=fun hk=>by
 obtain⟨a,b,c⟩:=Ls hk;rw[c]at hk;have hb:¬b9 (ai L)<=i:=by unfold b9 ai;omega
 rw[decide_eq_false (by omega:¬i<0),decide_eq_false hb,decide_eq_true hk]at h
 simp at h
theorem CO {L:List Obj} {i:Int} (h:(decide (i<0)||decide (b9 (ai L)<=i)|| !decide ((ah L i.toNat free).kind=1))=false):0<=i/\i<(L.length:Int)/\aR L i=ah L i.toNat free/\(aR L i).kind=1:=by
 simp only[Bool.or_eq_false_iff,decide_eq_false_iff_not,Bool.not_eq_false',Yk]at h;obtain⟨⟨h1,h2⟩,h3⟩:=h;unfold b9 ai at h2;have e:=gE (L:=L) (j:=i) (by omega) (by omega)
 exact⟨by omega,by omega,e,by rw[e];exact h3⟩
section
variable {L:List Obj} {i:Int} {k:Key} {md:Int} {m:bm}
end
end Go.Sx
