import Derived.Test.YtghpaegglbbocaaGreatKS
import Derived.Test.YtghpaegglbbocaaGreatSpP
set_option linter.unusedSimpArgs false
set_option linter.unusedVariables false
namespace Go.Sx
def we (o:Obj):Bool:=decide (o.kind=1)&&decide ((o.slots.at 2).kind=1)&&decide (0<=(o.slots.at 2).value)&&decide ((o.slots.at 2).value<=2)
def iZ (L:List Obj) (i:Int):Bool:=we (aH L i)
def nK (L:List Obj) (i:Int):Int:=if iZ L i=true then((aH L i).slots.at 2).value else 0
def xX (L:List Obj) (i:Int):Int:=if iZ L i=true then((aH L i).slots.at 2).value else -1
def iQ:my (Int×Unit):=cO iA na
theorem Qb:ji iQ:=aY j6 fz
def Ql:Ct:=EY (cO sA iQ) (fun _=>none) fun x=> .tp [.it .i64 (nK (BK x.1) x.2.1),.bo (iZ (BK x.1) x.2.1)]
theorem Oo {L:List Obj} {i:Int} (h:i<0\/(L.length:Int)<=i):aH L i=free:=by
 unfold aH;rw[Tn fun e=>by have:=jZ.1 e;omega]
theorem IF (o:Obj):we o=true↔o.kind=1/\(o.slots.at 2).kind=1/\0<=(o.slots.at 2).value/\(o.slots.at 2).value<=2:=by
 unfold we;simp only[Th,Ti,and_assoc]
theorem G1 {L:List Obj} {i:Int} (h:iZ L i=false):xX L i= -1/\nK L i=0:=by
 unfold xX nK;rw[h];exact⟨rfl,rfl⟩
theorem Db {L:List Obj} {i:Int} (h:iZ L i=true):xX L i=((aH L i).slots.at 2).value/\nK L i=((aH L i).slots.at 2).value:=by
 unfold xX nK;rw[h];exact⟨rfl,rfl⟩
theorem C8 (o:Obj):(!decide (o.kind=1)|| !decide ((o.slots.at 2).kind=1)||decide ((o.slots.at 2).value<0)||decide (2<(o.slots.at 2).value))= !we o:=by
 have h:=IF o;cases hp:we o with
 |true=>
  obtain⟨a,b,c,d⟩:=h.1 hp;have c':¬(o.slots.at 2).value<0:=by omega
  have d':¬2<(o.slots.at 2).value:=by omega
  simp[a,b,c',d']
 |false=>
  rw[Bool.not_false,Bool.or_eq_true,Bool.or_eq_true,Bool.or_eq_true,Bool.not_eq_true',Bool.not_eq_true',decide_eq_false_iff_not,decide_eq_false_iff_not,Ti,Ti];rw[hp]at h;have hn:¬(o.kind=1/\(o.slots.at 2).kind=1/\0<=(o.slots.at 2).value/\(o.slots.at 2).value<=2):=fun hh=>by have:=h.2 hh;simp at this
  omega
def ev (L:List Obj) (i st:Int):Int:=if aE L=0 then 1 else if¬(aH L i).kind=1 then 230 else if st<0\/2<st then 2 else 0
def CF (o:Obj) (st:Int):Obj:= {o with slots:=o.slots.put 2 (dv st)}
def jm (L:List Obj) (i st:Int):List Obj:=if ev L i st=0 then cX L i.toNat (CF (aH L i) st)else L
def SG:my (Int×Int×Unit):=cO iA (cO iA na)
theorem Ps:ji SG:=aY j6 (aY j6 fz)
def Q3:nD:=ET (Np SG) (fun L _=>an L) (fun L x=> .it .i64 (ev L x.1 x.2.1)) fun L x=>jm L x.1 x.2.1
end Go.Sx
namespace Go.Sx
structure aZ where
 code:Int
 data:ByteArray
 k0:Key
 k1:Key
 k2:Key
def tH (m:aZ):V:= .ag [.it .i64 m.code,.st m.data,.ag [.key m.k0,.key m.k1,.key m.k2]]
def ey:aZ:=⟨0,⟨#[]⟩,void,void,void⟩
def wq (v:V):Option aZ:=
 match v with
 | .ag l=>match l with
   | [a,b,c]=>match rI .i64 a with
     |some n=>match ER b with
      |some s=>match c with
       | .ag l'=>match l' with
         | [x,y,z]=>match rK x with
           |some k=>match rK y with
            |some k'=>match rK z with
             |some k''=>some ⟨n,s,k,k',k''⟩
             |none=>none
            |none=>none
           |none=>none
         |_=>none
       |_=>none
      |none=>none
     |none=>none
   |_=>none
 |_=>none
theorem yY:p7 wq tH:=by
 intro v x h;unfold wq at h;split at h
 case h_2=>simp at h
 split at h
 case h_2=>simp at h
 rename_i a b c;split at h
 case h_2=>simp at h
 rename_i n hn;split at h
 case h_2=>simp at h
 rename_i s hs;split at h
 case h_2=>simp at h
 split at h
 case h_2=>simp at h
 rename_i p q r;split at h
 case h_2=>simp at h
 rename_i k hk;split at h
 case h_2=>simp at h
 rename_i k' hk';split at h<;>simp only[Tf,reduceCtorEq]at h
 rename_i k'' hk'';subst h;refine⟨fun J=>?_,fun K hK=>?_⟩
 ·simp only[den,tH,aR,(fF .i64 _ _ hn).1 J,(y9 _ _ hs).1 J,(fO _ _ hk).1 J,(fO _ _ hk').1 J,(fO _ _ hk'').1 J]
 ·obtain⟨h1,h2⟩:=hK;obtain⟨g1,g2⟩:=h1.2.2.1;exact⟨⟨(fF .i64 _ _ hn).2 K h1.1,(y9 _ _ hs).2 K h1.2.1,⟨⟨(fO _ _ hk).2 K g1.1,(fO _ _ hk').2 K g1.2.1,(fO _ _ hk'').2 K g1.2.2.1,trivial⟩,by simp[pG]⟩,trivial⟩,by simp[pG]⟩
def mA:Arg aZ:=Co wq tH
theorem QD:nL mA:=rF yY (fun _=>rfl) fun v x h=>by cases v<;>simp[wq]at h;rfl
def NA (L:List Obj) (m:aZ):Bool:=decide (dK m.data<=32)&&eH L m.k0&&eH L m.k1&&eH L m.k2
def qY (L:List Obj) (m:aZ):aZ:=⟨m.code,m.data,ae L m.k0,ae L m.k1,ae L m.k2⟩
abbrev tM:Nat:=28
def B6:Ct:=fun res _ xs=>match xs with
 | [a]=>match rS tS eS res a with
   |some (_,L)=>match L with
    | []=>some (none,.ci .i64 0,[])
    |_=>none
   |none=>none
 |_=>none
theorem Kv {P:Program} {f:Nat} (h:cW P f BP):cW P f B6:=by
 intro J fps res K w0 F0 w nid args q x new hH hargs hg hq hfr;unfold B6 at hg;split at hg
 case h_2=>simp at hg
 rename_i a;split at hg
 case h_2=>simp at hg
 rename_i o L hr;split at hg<;>simp only[Tf,Tg,reduceCtorEq]at hg
 obtain⟨rfl,rfl,rfl⟩:=hg;obtain⟨h1,h2⟩:=h J fps res K w0 F0 w nid [a] none (.it .i64 (ah [])) [] hH hargs (by unfold BP N5;simp only[hr]) trivial hfr
 refine⟨h1.mono ?_,h2⟩;rintro e w' ⟨v,he,ρ',g,hv,_⟩
 refine⟨v,he,ρ',g,hv,?_⟩;simp[ok,cy]
end Go.Sx
set_option maxRecDepth 100000
namespace Go.Sx
theorem PK {L:List Obj} {i:Int} (h:(aH L i).kind=1):0<=i/\i<(L.length:Int)/\aH L i=aq L i.toNat free:=by
 by_cases hr:i<0\/(L.length:Int)<=i
 ·rw[Oo hr]at h;simp[free]at h
 ·exact⟨by omega,by omega,gw (by omega) (by omega)⟩
theorem GB {o:Obj} {n st:Int} (h:bx o n=true) (hk:o.kind=1):bx (CF o st) n=true:=by
 have hn:=(dJ.1 h).1;exact yn h hk (Ms (by omega) (sd h hk) (uf (by omega) _))
theorem Nv {L:List Obj} {i st:Int} (h:ev L i st=0):(0<=i/\i<(L.length:Int))/\aH L i=aq L i.toNat free/\(aq L i.toNat free).kind=1/\0<=st/\st<=2:=by
 unfold ev at h;split at h
 ·omega
 ·split at h
  ·omega
  ·split at h
   ·omega
   ·rename_i h1 h2 h3;have h2:(aH L i).kind=1:=by omega
    obtain⟨a,b,c⟩:=PK h2;exact⟨⟨a,b⟩,c,by rw[<-c];exact h2,by omega,by omega⟩
theorem Pn {L:List Obj} {i st:Int} (hL:an L):an (jm L i st):=by
 unfold jm;split
 ·rename_i h;obtain⟨⟨a,b⟩,c,d,_⟩:=Nv h;rw[c];exact lr hL (GB (dt hL _ (by omega)) d)
 ·exact hL
theorem Bk {L:List Obj} {i st e:Int} (h:ev L i st=e) (he:e≠0):e=ev L i st/\L=jm L i st:=⟨h.symm,by unfold jm;rw[h,Tn he]⟩
theorem Rf {L:List Obj} {i st:Int} (h:aE L=0):ev L i st=1:=by unfold ev;rw[To h]
theorem MI {L:List Obj} {i st:Int} (h:aE L≠0) (h2:¬(aH L i).kind=1):ev L i st=230:=by unfold ev;rw[Tn h,To h2]
theorem QT {L:List Obj} {i st:Int} (h:aE L≠0) (h2:(aH L i).kind=1) (h3:st<0\/2<st):ev L i st=2:=by unfold ev;rw[Tn h,Tn (by omega),To h3]
theorem Qw {L:List Obj} {i st:Int} (h:aE L≠0) (h2:(aH L i).kind=1) (h3:¬(st<0\/2<st)):ev L i st=0:=by unfold ev;rw[Tn h,Tn (by omega),Tn h3]
theorem Oy {L:List Obj} {i st:Int} (hL:an L) (h:ev L i st=0):dT L i (CF (aH L i) st)=0/\cc L i (CF (aH L i) st)=jm L i st:=by
 obtain⟨⟨a,b⟩,c,d,_⟩:=Nv h;obtain⟨p1,p2⟩:=lQ a b (GB (st:=st) (dt hL _ (by omega)) d)
 rw[c,p1,p2];refine⟨rfl,?_⟩;unfold jm;rw[To h,c]
section
variable {L:List Obj} {i:Int} {k:Key} {md:Int} {m:aZ}
end
end Go.Sx
