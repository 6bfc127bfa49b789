import Derived.Test.YtghpaegglbbocaaGreatKS
import Derived.Test.YtghpaegglbbocaaGreatSpP
set_option linter.unusedSimpArgs false
set_option linter.unusedVariables false
namespace Go.Sx
def ue (o:Obj):Bool:=decide (o.kind=1)&&decide ((o.slots.at 2).kind=1)&&decide (0<=(o.slots.at 2).value)&&decide ((o.slots.at 2).value<=2)
def jj (L:List Obj) (i:Int):Bool:=ue (aR L i)
def pD (L:List Obj) (i:Int):Int:=if jj L i=true then((aR L i).slots.at 2).value else 0
def pV (L:List Obj) (i:Int):Int:=if jj L i=true then((aR L i).slots.at 2).value else -1
def iQ:lj (Int×Unit):=bk iA iI
theorem Rt:iu iQ:=aJ fl cK
def RK:Ct:=tB (bk A6 iQ) (fun _=>none) fun x=> .it .i64 (pV x.1 x.2.1)
def Vo:Ct:=tB (bk sA iQ) (fun _=>none) fun x=> .tp [.it .i64 (pD (D9 x.1) x.2.1),.bo (jj (D9 x.1) x.2.1)]
theorem LF {L:List Obj} {i:Int} (h:i<0\/(L.length:Int)<=i):aR L i=free:=by
 unfold aR;rw[XQ fun e=>by have:=kq.1 e;omega]
theorem BB (o:Obj):ue o=true↔o.kind=1/\(o.slots.at 2).kind=1/\0<=(o.slots.at 2).value/\(o.slots.at 2).value<=2:=by
 unfold ue;simp only[XK,XL,and_assoc]
theorem Bj {L:List Obj} {i:Int} (h:jj L i=false):pV L i= -1/\pD L i=0:=by
 unfold pV pD;rw[h];exact⟨rfl,rfl⟩
theorem Aj {L:List Obj} {i:Int} (h:jj L i=true):pV L i=((aR L i).slots.at 2).value/\pD L i=((aR L i).slots.at 2).value:=by
 unfold pV pD;rw[h];exact⟨rfl,rfl⟩
theorem Bm (o:Obj):(!decide (o.kind=1)|| !decide ((o.slots.at 2).kind=1)||decide ((o.slots.at 2).value<0)||decide (2<(o.slots.at 2).value))= !ue o:=by
 have h:=BB o;cases hp:ue o with
 |true=>
  obtain⟨a,b,c,d⟩:=h.1 hp;have c':¬(o.slots.at 2).value<0:=by omega
  have d':¬2<(o.slots.at 2).value:=by omega
  simp[a,b,c',d']
 |false=>
  rw[Bool.not_false,Bool.or_eq_true,Bool.or_eq_true,Bool.or_eq_true,Bool.not_eq_true',Bool.not_eq_true',decide_eq_false_iff_not,decide_eq_false_iff_not,XL,XL];rw[hp]at h;have hn:¬(o.kind=1/\(o.slots.at 2).kind=1/\0<=(o.slots.at 2).value/\(o.slots.at 2).value<=2):=fun hh=>by have:=h.2 hh;simp at this
  omega
def dU (L:List Obj) (i st:Int):Int:=if aj L=0 then 1 else if¬(aR L i).kind=1 then 230 else if st<0\/2<st then 2 else 0
def Fz (o:Obj) (st:Int):Obj:= {o with slots:=o.slots.put 2 (cG st)}
def iw (L:List Obj) (i st:Int):List Obj:=if dU L i st=0 then cx L i.toNat (Fz (aR L i) st)else L
def mE (L:List Obj) (i st:Int):Bool:=decide (dU L i st=0)
def VH:lj (Int×Int×Unit):=bk iA (bk iA iI)
theorem L3:iu VH:=aJ fl (aJ fl cK)
def RV:kz:=yW (vJ VH) (fun L _=>aq L) (fun L x=>mE L x.1 x.2.1) (fun L x=>iw L x.1 x.2.1) fun L x=> [.it .i64 (dU L x.1 x.2.1)]
def UR:kz:=GM (vJ VH) (fun L _=>aq L) (fun L x=> .it .i64 (dU L x.1 x.2.1)) fun L x=>iw L x.1 x.2.1
end Go.Sx
namespace Go.Sx
structure bm where
 code:Int
 data:ByteArray
 k0:Key
 k1:Key
 k2:Key
def kJ (m:bm):V:= .ag [.it .i64 m.code,.st m.data,.ag [.key m.k0,.key m.k1,.key m.k2]]
def dz:bm:=⟨0,⟨#[]⟩,void,void,void⟩
def xL (v:V):Option bm:=
 match v with
 | .ag l=>match l with
   | [a,b,c]=>match rI .i64 a with
     |some n=>match G9 b with
      |some s=>match c with
       | .ag l'=>match l' with
         | [x,y,z]=>match rK x with
           |some k=>match rK y with
            |some k'=>match rK z with
             |some k''=>some ⟨n,s,k,k',k''⟩
             |none=>none
            |none=>none
           |none=>none
         |_=>none
       |_=>none
      |none=>none
     |none=>none
   |_=>none
 |_=>none
theorem sG:pg xL kJ:=by
 intro v x h;unfold xL at h;split at h
 case h_2=>simp at h
 split at h
 case h_2=>simp at h
 rename_i a b c;split at h
 case h_2=>simp at h
 rename_i n hn;split at h
 case h_2=>simp at h
 rename_i s hs;split at h
 case h_2=>simp at h
 split at h
 case h_2=>simp at h
 rename_i p q r;split at h
 case h_2=>simp at h
 rename_i k hk;split at h
 case h_2=>simp at h
 rename_i k' hk';split at h<;>simp only[XI,reduceCtorEq]at h
 rename_i k'' hk'';subst h;refine⟨fun J=>?_,fun K hK=>?_⟩
 ·simp only[den,kJ,bf,(fy .i64 _ _ hn).1 J,(Am _ _ hs).1 J,(fx _ _ hk).1 J,(fx _ _ hk').1 J,(fx _ _ hk'').1 J]
 ·obtain⟨h1,h2⟩:=hK;obtain⟨g1,g2⟩:=h1.2.2.1;exact⟨⟨(fy .i64 _ _ hn).2 K h1.1,(Am _ _ hs).2 K h1.2.1,⟨⟨(fx _ _ hk).2 K g1.1,(fx _ _ hk').2 K g1.2.1,(fx _ _ hk'').2 K g1.2.2.1,trivial⟩,by simp[qY]⟩,trivial⟩,by simp[qY]⟩
def mA:Arg bm:=DK xL kJ
theorem FT:qg mA:=tC sG (fun _=>rfl) fun v x h=>by cases v<;>simp[xL]at h;rfl
def qZ (L:List Obj) (m:bm):Bool:=decide (cc m.data<=32)&&cZ L m.k0&&cZ L m.k1&&cZ L m.k2
def aL (L:List Obj) (m:bm):bm:=⟨m.code,m.data,ab L m.k0,ab L m.k1,ab L m.k2⟩
def SB:Ct:=tB (bk A6 (bk mA iI)) (fun x=>some (aA x.2.1.data)) fun x=> .bo (qZ x.1 x.2.1)
def T8:Ct:=tB (bk A6 (bk mA iI)) (fun _=>none) fun x=>kJ (aL x.1 x.2.1)
abbrev tM:Nat:=28
def Eu:Ct:=fun res _ xs=>match xs with
 | [a]=>match rS tS eS res a with
   |some (_,L)=>match L with
    | []=>some (none,.ci .i64 0,[])
    |_=>none
   |none=>none
 |_=>none
theorem Ps {P:Program} {f:Nat} (h:cj P f DN):cj P f Eu:=by
 intro J fps res K w0 F0 w nid args q x new hH hargs hg hq hfr;unfold Eu at hg;split at hg
 case h_2=>simp at hg
 rename_i a;split at hg
 case h_2=>simp at hg
 rename_i o L hr;split at hg<;>simp only[XI,XJ,reduceCtorEq]at hg
 obtain⟨rfl,rfl,rfl⟩:=hg;obtain⟨h1,h2⟩:=h J fps res K w0 F0 w nid [a] none (.it .i64 (ak [])) [] hH hargs (by unfold DN Tf;simp only[hr]) trivial hfr
 refine⟨h1.mono ?_,h2⟩;rintro e w' ⟨v,he,ρ',g,hv,_⟩
 refine⟨v,he,ρ',g,hv,?_⟩;simp[ok,cg]
end Go.Sx
set_option maxRecDepth 100000
namespace Go.Sx
theorem Ls {L:List Obj} {i:Int} (h:(aR L i).kind=1):0<=i/\i<(L.length:Int)/\aR L i=ah L i.toNat free:=by
 by_cases hr:i<0\/(L.length:Int)<=i
 ·rw[LF hr]at h;simp[free]at h
 ·exact⟨by omega,by omega,gF (by omega) (by omega)⟩
theorem Iq {o:Obj} {n st:Int} (h:bT o n=true) (hk:o.kind=1):bT (Fz o st) n=true:=by
 have hn:=(fg.1 h).1;exact Ag h hk (PF (by omega) (ui h hk) (vY (by omega) _))
theorem RA {L:List Obj} {i st:Int} (h:dU L i st=0):(0<=i/\i<(L.length:Int))/\aR L i=ah L i.toNat free/\(ah L i.toNat free).kind=1/\0<=st/\st<=2:=by
 unfold dU at h;split at h
 ·omega
 ·split at h
  ·omega
  ·split at h
   ·omega
   ·rename_i h1 h2 h3;have h2:(aR L i).kind=1:=by omega
    obtain⟨a,b,c⟩:=Ls h2;exact⟨⟨a,b⟩,c,by rw[<-c];exact h2,by omega,by omega⟩
theorem TT {L:List Obj} {i st:Int} (hL:aq L):aq (iw L i st):=by
 unfold iw;split
 ·rename_i h;obtain⟨⟨a,b⟩,c,d,_⟩:=RA h;rw[c];exact m8 hL (Iq (dW hL _ (by omega)) d)
 ·exact hL
theorem D0 {L:List Obj} {i st e:Int} (h:dU L i st=e) (he:e≠0):e=dU L i st/\L=iw L i st:=⟨h.symm,by unfold iw;rw[h,XQ he]⟩
theorem Rg {L:List Obj} {i st:Int} (h:aj L=0):dU L i st=1:=by unfold dU;rw[XR h]
theorem E3 {L:List Obj} {i st:Int} (h:aj L≠0) (h2:¬(aR L i).kind=1):dU L i st=230:=by unfold dU;rw[XQ h,XR h2]
theorem RD {L:List Obj} {i st:Int} (h:aj L≠0) (h2:(aR L i).kind=1) (h3:st<0\/2<st):dU L i st=2:=by unfold dU;rw[XQ h,XQ (by omega),XR h3]
theorem Rc {L:List Obj} {i st:Int} (h:aj L≠0) (h2:(aR L i).kind=1) (h3:¬(st<0\/2<st)):dU L i st=0:=by unfold dU;rw[XQ h,XQ (by omega),XQ h3]
theorem SG {L:List Obj} {i st:Int} (hL:aq L) (h:dU L i st=0):eK L i (Fz (aR L i) st)=0/\cW L i (Fz (aR L i) st)=iw L i st:=by
 obtain⟨⟨a,b⟩,c,d,_⟩:=RA h;obtain⟨p1,p2⟩:=nt a b (Iq (st:=st) (dW hL _ (by omega)) d)
 rw[c,p1,p2];refine⟨rfl,?_⟩;unfold iw;rw[XR h,c]
theorem Od {L:List Obj} {i:Int} (hL:aq L) (h0:0<=i) (h1:i<(L.length:Int)):dN L i:=⟨h0,h1,by have:=(ku hL).2;unfold aj;omega⟩
theorem QX {L:List Obj} {i:Int} (h:(decide (i<0)||decide (cw (aj L)<=i)|| !decide ((ah L i.toNat free).kind=1))=true):¬(aR L i).kind=1:=fun hk=>by
 obtain⟨a,b,c⟩:=Ls hk;rw[c]at hk;have hb:¬cw (aj L)<=i:=by unfold cw aj;omega
 rw[decide_eq_false (by omega:¬i<0),decide_eq_false hb,decide_eq_true hk]at h
 simp at h
theorem CV {L:List Obj} {i:Int} (h:(decide (i<0)||decide (cw (aj L)<=i)|| !decide ((ah L i.toNat free).kind=1))=false):0<=i/\i<(L.length:Int)/\aR L i=ah L i.toNat free/\(aR L i).kind=1:=by
 simp only[Bool.or_eq_false_iff,decide_eq_false_iff_not,Bool.not_eq_false',XL]at h;obtain⟨⟨h1,h2⟩,h3⟩:=h;unfold cw aj at h2;have e:=gF (L:=L) (j:=i) (by omega) (by omega)
 exact⟨by omega,by omega,e,by rw[e];exact h3⟩
section
variable {L:List Obj} {i:Int} {k:Key} {md:Int} {m:bm}
end
end Go.Sx
