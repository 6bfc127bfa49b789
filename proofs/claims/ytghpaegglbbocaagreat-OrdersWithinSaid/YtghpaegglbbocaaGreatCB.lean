import Derived.Test.YtghpaegglbbocaaGreatCP
import Derived.Test.YtghpaegglbbocaaGreatSpB
import Derived.Test.YtghpaegglbbocaaGreatKS
import Derived.Test.YtghpaegglbbocaaGreatCV
set_option linter.unusedSimpArgs false
set_option linter.unusedVariables false
namespace Go.Proofs.YtghpaegglbbocaaGreat
open Go.Sx
end Go.Proofs.YtghpaegglbbocaaGreat
namespace Go.Proofs.YtghpaegglbbocaaGreat
open Go.Sx
set_option maxRecDepth 100000
theorem K3 (kind oid count:Int):
 (decide (kind=2)=true->Key.mk 3 oid count void.call void.rights void.value=bI kind oid count)/\(decide (kind=2)=false->Key.mk 2 oid count void.call void.rights void.value=bI kind
  oid count):=by
 unfold bI;exact⟨fun h=>by rw[To (Tl h)];rfl,fun h=>by rw[Tn (Tk h)];rfl⟩
theorem pk:cW Tryz.prog 185 PH:=
 Hs (fF .i64) (fF .i64) (fF .i64) (fun _ _ _=>rfl) fun i j k _ _ _=>bh (inl:=bM) (ann:=aL) ak (K3 i j k) (by kernel_rfl)
theorem Ef (k v:Key):
 true=true/\true=true/\((!decide (0<ah []))=true->false=kV [] k v/\1=aS [] k)/\((!decide (0<ah []))=false->true=true/\((!(aM [] k&&decide (k.kind=4)))=
  true->false=kV [] k v/\190=aS [] k)/\((!(aM [] k&&decide (k.kind=4)))=false->true=true/\((!(decide (((aa [] k).slots.at 0).kind=1)&&decide (((aa [] k).slots.at
  1).kind=1)&&decide (0<=((aa [] k).slots.at 0).value)&&decide (((aa [] k).slots.at 0).value<=((aa [] k).slots.at 1).value)&&decide (((aa [] k).slots.at 1).value<ah [])))
  =true->false=kV [] k v/\220=aS [] k)/\((!(decide (((aa [] k).slots.at 0).kind=1)&&decide (((aa [] k).slots.at 1).kind=1)&&decide (0<=((aa [] k).slots.at 0).value)&&
  decide (((aa [] k).slots.at 0).value<=((aa [] k).slots.at 1).value)&&decide (((aa [] k).slots.at 1).value<ah [])))=false->true=true/\(aM [] v&&(decide (v.kind=2)||
  decide (v.kind=3))&&decide (((aa [] k).slots.at 0).value<=bW v)&&decide (bW v<=((aa [] k).slots.at 1).value))=kV [] k v/\0=aS [] k))):=by
 exact⟨rfl,rfl,fun h=>ye (C2 h) (by omega),fun h=>absurd h (by decide)⟩
theorem HX (L:List Sx.Obj) (k v:Key):
 true=true/\true=true/\((!decide (0<ah L))=true->false=kV L k v/\1=aS L k)/\((!decide (0<ah L))=false->true=true/\((!(aM L k&&decide (k.kind=4)))=true->
  false=kV L k v/\190=aS L k)/\((!(aM L k&&decide (k.kind=4)))=false->true=true/\((!(decide (((aa L k).slots.at 0).kind=1)&&decide (((aa L k).slots.at 1).kind=1)&&
  decide (0<=((aa L k).slots.at 0).value)&&decide (((aa L k).slots.at 0).value<=((aa L k).slots.at 1).value)&&decide (((aa L k).slots.at 1).value<ah L)))=true->false=
  kV L k v/\220=aS L k)/\((!(decide (((aa L k).slots.at 0).kind=1)&&decide (((aa L k).slots.at 1).kind=1)&&decide (0<=((aa L k).slots.at 0).value)&&decide (((aa L
  k).slots.at 0).value<=((aa L k).slots.at 1).value)&&decide (((aa L k).slots.at 1).value<ah L)))=false->true=true/\(aM L v&&(decide (v.kind=2)||decide (v.kind=3))&&
  decide (((aa L k).slots.at 0).value<=bW v)&&decide (bW v<=((aa L k).slots.at 1).value))=kV L k v/\0=aS L k))):=by
 refine⟨rfl,rfl,fun h=>ye (C2 h) (by omega),fun h=>⟨rfl,fun h2=>ye (Q6 h h2) (by omega),fun h2=>⟨rfl,fun h3=>ye (Rl h h2 h3) (by omega),fun h3=>⟨rfl,?_,(L7 h h2 h3).1.symm⟩⟩⟩⟩
 obtain⟨e,e1,e2⟩:=L7 h h2 h3;rw[e1,e2];unfold kV jo;rw[e];cases hi:aM L v with
 |false=>simp
 |true=>
  cases hk:(decide (v.kind=2)||decide (v.kind=3))with
  |false=>simp
  |true=>
   have hn:bW v=v.oid:=PE hi;rw[hn];simp
theorem HB:cW Tryz.prog 165 MA:=
 kY (aY rf FG) (fun _=>rfl) fun a hq hok=>by
  obtain⟨S,k,v,_⟩:=a;cases S with
  |none=>exact aK (inl:=(fun f=>f==153||f==152||f==154)) (ann:=aL) (ab aX (ab bp (ab dX ak))) aA (dO fy) (Ef k v) (by kernel_rfl)
  |some L=>exact aK (inl:=(fun f=>f==153||f==152||f==154)) (ann:=aL) (ab aX (ab bp (ab dX ak))) aA (dO fy) (HX L k v) (by kernel_rfl)
theorem H3 (k v:Key):
 true=true/\true=true/\((!decide (0<ah []))=true->1=dA [] k v)/\((!decide (0<ah []))=false->true=true/\((!(aM [] k&&decide (k.kind=4)))=true->190=dA [] k
  v)/\((!(aM [] k&&decide (k.kind=4)))=false->true=true/\((!(decide (((aa [] k).slots.at 0).kind=1)&&decide (((aa [] k).slots.at 1).kind=1)&&decide (0<=((aa []
  k).slots.at 0).value)&&decide (((aa [] k).slots.at 0).value<=((aa [] k).slots.at 1).value)&&decide (((aa [] k).slots.at 1).value<ah [])))=true->220=dA [] k v)/\
  ((!(decide (((aa [] k).slots.at 0).kind=1)&&decide (((aa [] k).slots.at 1).kind=1)&&decide (0<=((aa [] k).slots.at 0).value)&&decide (((aa [] k).slots.at 0).value<=((aa
  [] k).slots.at 1).value)&&decide (((aa [] k).slots.at 1).value<ah [])))=false->true=true/\true=true/\((!(aM [] v&&(decide (v.kind=2)||decide (v.kind=3))))=true->5=
  dA [] k v)/\((!(aM [] v&&(decide (v.kind=2)||decide (v.kind=3))))=false->true=true/\true=true/\((!(decide (((aa [] k).slots.at 0).value<=v.oid)&&decide (v.oid<=((aa
  [] k).slots.at 1).value)&& !decide (v.oid=k.oid)))=true->4=dA [] k v)/\((!(decide (((aa [] k).slots.at 0).value<=v.oid)&&decide (v.oid<=((aa [] k).slots.at 1).value)&& !decide
  (v.oid=k.oid)))=false->true=true/\true=true/\0=dA [] k v))))):=by
 exact⟨rfl,rfl,fun h=>(qc (nM (C2 h) (by omega)) (by omega)).1,fun h=>absurd h (by decide)⟩
theorem JO (k v:Key):
 true=true/\true=true/\((!decide (0<ah []))=true->1=dA [] k v)/\((!decide (0<ah []))=false->true=true/\((!(aM [] k&&decide (k.kind=4)))=true->190=dA [] k
  v)/\((!(aM [] k&&decide (k.kind=4)))=false->true=true/\((!(decide (((aa [] k).slots.at 0).kind=1)&&decide (((aa [] k).slots.at 1).kind=1)&&decide (0<=((aa []
  k).slots.at 0).value)&&decide (((aa [] k).slots.at 0).value<=((aa [] k).slots.at 1).value)&&decide (((aa [] k).slots.at 1).value<ah [])))=true->220=dA [] k v)/\
  ((!(decide (((aa [] k).slots.at 0).kind=1)&&decide (((aa [] k).slots.at 1).kind=1)&&decide (0<=((aa [] k).slots.at 0).value)&&decide (((aa [] k).slots.at 0).value<=((aa
  [] k).slots.at 1).value)&&decide (((aa [] k).slots.at 1).value<ah [])))=false->true=true/\true=true/\((!(aM [] v&&(decide (v.kind=2)||decide (v.kind=3))))=true->5=
  dA [] k v)/\((!(aM [] v&&(decide (v.kind=2)||decide (v.kind=3))))=false->true=true/\true=true/\((!(decide (((aa [] k).slots.at 0).value<=v.oid)&&decide (v.oid<=((aa
  [] k).slots.at 1).value)&& !decide (v.oid=k.oid)))=true->4=dA [] k v)/\((!(decide (((aa [] k).slots.at 0).value<=v.oid)&&decide (v.oid<=((aa [] k).slots.at 1).value)&& !decide
  (v.oid=k.oid)))=false->true=true/\true=true/\False))))):=by
 exact⟨rfl,rfl,fun h=>(qc (nM (C2 h) (by omega)) (by omega)).1,fun h=>absurd h (by decide)⟩
theorem Lg (L:List Sx.Obj) (k v:Key) (hL:an L):
 true=true/\true=true/\((!decide (0<ah L))=true->1=dA L k v/\L=gA L k v)/\((!decide (0<ah L))=false->true=true/\((!(aM L k&&decide (k.kind=4)))=true->
  190=dA L k v/\L=gA L k v)/\((!(aM L k&&decide (k.kind=4)))=false->true=true/\((!(decide (((aa L k).slots.at 0).kind=1)&&decide (((aa L k).slots.at 1).kind=1)&&
  decide (0<=((aa L k).slots.at 0).value)&&decide (((aa L k).slots.at 0).value<=((aa L k).slots.at 1).value)&&decide (((aa L k).slots.at 1).value<ah L)))=true->220=dA
  L k v/\L=gA L k v)/\((!(decide (((aa L k).slots.at 0).kind=1)&&decide (((aa L k).slots.at 1).kind=1)&&decide (0<=((aa L k).slots.at 0).value)&&decide (((aa L
  k).slots.at 0).value<=((aa L k).slots.at 1).value)&&decide (((aa L k).slots.at 1).value<ah L)))=false->true=true/\true=true/\((!(aM L v&&(decide (v.kind=2)||decide
  (v.kind=3))))=true->5=dA L k v/\L=gA L k v)/\((!(aM L v&&(decide (v.kind=2)||decide (v.kind=3))))=false->true=true/\true=true/\((!(decide (((aa L k).slots.at
  0).value<=v.oid)&&decide (v.oid<=((aa L k).slots.at 1).value)&& !decide (v.oid=k.oid)))=true->4=dA L k v/\L=gA L k v)/\((!(decide (((aa L k).slots.at 0).value<=v.oid)
  &&decide (v.oid<=((aa L k).slots.at 1).value)&& !decide (v.oid=k.oid)))=false->true=true/\true=true/\0=dA L k v/\cc L v.oid (Obj.mk free.kind (aH L v.oid).count
  free.calls free.slots free.bytes)=gA L k v))))):=by
 refine⟨rfl,rfl,fun h=>qc (nM (C2 h) (by omega)) (by omega),fun h=>⟨rfl,fun h2=>qc (nM (Q6 h h2) (by omega)) (by omega),fun h2=>⟨rfl,fun h3=>qc (nM (Rl h h2 h3) (by omega)) (by omega),fun h3=>⟨rfl,rfl,fun h4=>?_,fun h4=>⟨rfl,rfl,fun h5=>?_,fun h5=>⟨rfl,rfl,?_⟩⟩⟩⟩⟩⟩
 ·obtain⟨e,e1,e2⟩:=L7 h h2 h3;have ht:jo L v=false:=by have h4':(!jo L v)=true:=h4;simpa using h4'
  exact qc (by unfold dA;rw[To e,ht];rfl) (by omega)
 ·obtain⟨e,e1,e2⟩:=L7 h h2 h3;have ht:jo L v=true:=by have h4':(!jo L v)=false:=h4;simpa using h4'
  rw[e1,e2]at h5
  exact qc (by
   unfold dA;rw[To e,ht,To rfl,Tn];intro hh;simp only[Bool.not_eq_true',Bool.and_eq_false_iff,Bool.not_eq_false',decide_eq_false_iff_not,Ti]at h5;omega) (by omega)
 ·obtain⟨e,e1,e2⟩:=L7 h h2 h3;have ht:jo L v=true:=by have h4':(!jo L v)=false:=h4;simpa using h4'
  rw[e1,e2]at h5
  have hE:dA L k v=0:=by
   unfold dA;rw[To e,ht,To rfl,To];simp only[Bool.not_eq_false',Th,Bool.not_eq_true',Ti,decide_eq_false_iff_not]at h5;omega
  obtain⟨_,b2,b3,_⟩:=ea (Ip ht);rw[gw b2 b3];refine⟨hE.symm,?_⟩;unfold gA;rw[To hE];exact(lQ b2 b3 (ub (dt hL v.oid.toNat (by omega)))).1
theorem Mw (L:List Sx.Obj) (k v:Key) (hL:an L):ai Tryz.prog 83 [.lp 0 0,.key k,.key v] [.store tS eS L] (zO (.it .i64 (dA L k v)) (gA L k v)) (fun _ _=>False):=
 aK (inl:=(fun f=>f==153||f==152||f==154||f==155||f==156)) (ann:=aL) (ab aX (ab bp (ab fM ak))) (aG c9 aA) (dO fy) (Lg L k v hL) (by kernel_rfl)
theorem J7:ql Tryz.prog 83 On:=
 lh (m:=fun x=>RX.cn x 0) (rX FG (fun _=>rfl)) (fun _=>rfl) (fun _ _=>rfl) (fun x=>aK (inl:=(fun f=>f==153||f==152||f==154||f==155||f==156)) (ann:=aL) (ab aX (ab bp (ab fM ak))) (aG c9 aA) (dO fy) (H3 x.1 x.2.1) (by kernel_rfl)) (fun x=>aK (inl:=(fun f=>f==153||f==152||f==154||f==155||f==156)) (ann:=aL) (ab aX (ab bp (ab fM ak))) (aG c9 aA) (dO fy) (JO x.1 x.2.1) (by kernel_rfl)) fun L x hL _ _=>Mw L x.1 x.2.1 hL
theorem Eo (k:Key):
 true=true/\true=true/\((!decide (0<ah []))=true->0=gX [] k/\1=aS [] k)/\((!decide (0<ah []))=false->true=true/\((!(aM [] k&&decide (k.kind=4)))=true->0
  =gX [] k/\190=aS [] k)/\((!(aM [] k&&decide (k.kind=4)))=false->true=true/\((!(decide (((aa [] k).slots.at 0).kind=1)&&decide (((aa [] k).slots.at 1).kind=1)&&
  decide (0<=((aa [] k).slots.at 0).value)&&decide (((aa [] k).slots.at 0).value<=((aa [] k).slots.at 1).value)&&decide (((aa [] k).slots.at 1).value<ah [])))=true->0=
  gX [] k/\220=aS [] k)/\((!(decide (((aa [] k).slots.at 0).kind=1)&&decide (((aa [] k).slots.at 1).kind=1)&&decide (0<=((aa [] k).slots.at 0).value)&&decide (((aa
  [] k).slots.at 0).value<=((aa [] k).slots.at 1).value)&&decide (((aa [] k).slots.at 1).value<ah [])))=false->true=true/\true=true/\∀(r0:Loop),False))):=by
 exact⟨rfl,rfl,fun h=>(vp (C2 h) (by omega)).1,fun h=>absurd h (by decide)⟩
theorem Ea (k:Key):
 true=true/\true=true/\((!decide (0<ah []))=true->0=gX [] k/\1=aS [] k)/\((!decide (0<ah []))=false->true=true/\((!(aM [] k&&decide (k.kind=4)))=true->0
  =gX [] k/\190=aS [] k)/\((!(aM [] k&&decide (k.kind=4)))=false->true=true/\((!(decide (((aa [] k).slots.at 0).kind=1)&&decide (((aa [] k).slots.at 1).kind=1)&&
  decide (0<=((aa [] k).slots.at 0).value)&&decide (((aa [] k).slots.at 0).value<=((aa [] k).slots.at 1).value)&&decide (((aa [] k).slots.at 1).value<ah [])))=true->0=
  gX [] k/\220=aS [] k)/\((!(decide (((aa [] k).slots.at 0).kind=1)&&decide (((aa [] k).slots.at 1).kind=1)&&decide (0<=((aa [] k).slots.at 0).value)&&decide (((aa
  [] k).slots.at 0).value<=((aa [] k).slots.at 1).value)&&decide (((aa [] k).slots.at 1).value<ah [])))=false->true=true/\true=true/\∀(r0:Loop),False))):=by
 exact⟨rfl,rfl,fun h=>(vp (C2 h) (by omega)).1,fun h=>absurd h (by decide)⟩
theorem Gk (L:List Sx.Obj) (k:Key) (hL:an L):
 true=true/\true=true/\((!decide (0<ah L))=true->(0=gX L k/\1=aS L k)/\L=iu L k)/\((!decide (0<ah L))=false->true=true/\((!(aM L k&&decide (k.kind=
  4)))=true->(0=gX L k/\190=aS L k)/\L=iu L k)/\((!(aM L k&&decide (k.kind=4)))=false->true=true/\((!(decide (((aa L k).slots.at 0).kind=1)&&decide (((aa L
  k).slots.at 1).kind=1)&&decide (0<=((aa L k).slots.at 0).value)&&decide (((aa L k).slots.at 0).value<=((aa L k).slots.at 1).value)&&decide (((aa L k).slots.at 1).value<
  ah L)))=true->(0=gX L k/\220=aS L k)/\L=iu L k)/\((!(decide (((aa L k).slots.at 0).kind=1)&&decide (((aa L k).slots.at 1).kind=1)&&decide (0<=((aa L
  k).slots.at 0).value)&&decide (((aa L k).slots.at 0).value<=((aa L k).slots.at 1).value)&&decide (((aa L k).slots.at 1).value<ah L)))=false->true=true/\true=true/\∀(r0
  :Loop),(∃g,oP L k g/\((aa L k).slots.at 0).value=g/\L=ft L (au L k) g k.oid/\k=k/\0=fX L (au L k) g k.oid/\k=k/\aa L k=aa L k/\k.oid=k.oid/\
  ((aa L k).slots.at 0).value=((aa L k).slots.at 0).value/\((aa L k).slots.at 1).value=((aa L k).slots.at 1).value/\aa L k=aa L k/\(aa L k).slots.at 0=(aa L
  k).slots.at 0/\(aa L k).slots.at 1=(aa L k).slots.at 1/\aa L k=aa L k/\k.oid=k.oid/\((aa L k).slots.at 0).value=((aa L k).slots.at 0).value/\((aa L k).slots.at
  1).value=((aa L k).slots.at 1).value/\aa L k=aa L k/\k.oid=k.oid/\((aa L k).slots.at 0).value=((aa L k).slots.at 0).value/\((aa L k).slots.at 1).value=((aa L
  k).slots.at 1).value/\r0=r0)/\∀(g:Int),oP L k g->(decide (g<=((aa L k).slots.at 1).value)=true->r0=r0/\r0=r0/\((decide ((aH (ft L (au L k) g k.oid) g).kind=1)||
  decide ((aH (ft L (au L k) g k.oid) g).kind=2))=true->true=true/\((decide (((aa L k).slots.at 0).value<=g)&&decide (g<=((aa L k).slots.at 1).value)&& !decide (g=k.oid))
  =true->true=true/\true=true/\aQ IntKind.i64 (fX L (au L k) g k.oid+1)/\r0=r0/\aQ IntKind.i64 (g+1)/\∃g',oP L k g'/\(ay L k+1-g').toNat<(ay L k+1-
  g).toNat/\g+1=g'/\cc (ft L (au L k) g k.oid) g (Obj.mk free.kind (aH (ft L (au L k) g k.oid) g).count free.calls free.slots free.bytes)=ft L (au L k) g' k.oid/\k=
  k/\fX L (au L k) g k.oid+1=fX L (au L k) g' k.oid/\k=k/\aa L k=aa L k/\k.oid=k.oid/\((aa L k).slots.at 0).value=((aa L k).slots.at 0).value/\((aa L
  k).slots.at 1).value=((aa L k).slots.at 1).value/\aa L k=aa L k/\(aa L k).slots.at 0=(aa L k).slots.at 0/\(aa L k).slots.at 1=(aa L k).slots.at 1/\aa L k=
  aa L k/\k.oid=k.oid/\((aa L k).slots.at 0).value=((aa L k).slots.at 0).value/\((aa L k).slots.at 1).value=((aa L k).slots.at 1).value/\aa L k=aa L k/\k.oid=
  k.oid/\((aa L k).slots.at 0).value=((aa L k).slots.at 0).value/\((aa L k).slots.at 1).value=((aa L k).slots.at 1).value/\r0=r0)/\((decide (((aa L k).slots.at 0).value<=g)
  &&decide (g<=((aa L k).slots.at 1).value)&& !decide (g=k.oid))=false->r0=r0/\aQ IntKind.i64 (g+1)/\∃g',oP L k g'/\(ay L k+1-g').toNat<(ay L k+1-g).toNat/\
  g+1=g'/\ft L (au L k) g k.oid=ft L (au L k) g' k.oid/\k=k/\fX L (au L k) g k.oid=fX L (au L k) g' k.oid/\k=k/\aa L k=aa L k/\k.oid=k.oid/\
  ((aa L k).slots.at 0).value=((aa L k).slots.at 0).value/\((aa L k).slots.at 1).value=((aa L k).slots.at 1).value/\aa L k=aa L k/\(aa L k).slots.at 0=(aa L
  k).slots.at 0/\(aa L k).slots.at 1=(aa L k).slots.at 1/\aa L k=aa L k/\k.oid=k.oid/\((aa L k).slots.at 0).value=((aa L k).slots.at 0).value/\((aa L k).slots.at
  1).value=((aa L k).slots.at 1).value/\aa L k=aa L k/\k.oid=k.oid/\((aa L k).slots.at 0).value=((aa L k).slots.at 0).value/\((aa L k).slots.at 1).value=((aa L
  k).slots.at 1).value/\r0=r0))/\((decide ((aH (ft L (au L k) g k.oid) g).kind=1)||decide ((aH (ft L (au L k) g k.oid) g).kind=2))=false->r0=r0/\aQ IntKind.i64 (g+
  1)/\∃g',oP L k g'/\(ay L k+1-g').toNat<(ay L k+1-g).toNat/\g+1=g'/\ft L (au L k) g k.oid=ft L (au L k) g' k.oid/\k=k/\fX L (au L k) g k.oid=
  fX L (au L k) g' k.oid/\k=k/\aa L k=aa L k/\k.oid=k.oid/\((aa L k).slots.at 0).value=((aa L k).slots.at 0).value/\((aa L k).slots.at 1).value=((aa L
  k).slots.at 1).value/\aa L k=aa L k/\(aa L k).slots.at 0=(aa L k).slots.at 0/\(aa L k).slots.at 1=(aa L k).slots.at 1/\aa L k=aa L k/\k.oid=k.oid/\
  ((aa L k).slots.at 0).value=((aa L k).slots.at 0).value/\((aa L k).slots.at 1).value=((aa L k).slots.at 1).value/\aa L k=aa L k/\k.oid=k.oid/\((aa L k).slots.at
  0).value=((aa L k).slots.at 0).value/\((aa L k).slots.at 1).value=((aa L k).slots.at 1).value/\r0=r0))/\(decide (g<=((aa L k).slots.at 1).value)=false->(fX L (au L
  k) g k.oid=gX L k/\0=aS L k)/\ft L (au L k) g k.oid=iu L k)))):=by
 refine⟨rfl,rfl,fun h=>vp (C2 h) (by omega),fun h=>⟨rfl,fun h2=>vp (Q6 h h2) (by omega),fun h2=>⟨rfl,fun h3=>vp (Rl h h2 h3) (by omega),fun h3=>⟨rfl,rfl,fun r0=>?_⟩⟩⟩⟩
 obtain⟨e,e1,e2⟩:=L7 h h2 h3;obtain⟨_,a0,a1,a2,_⟩:=jT e;rw[e1,e2];have hlen:=lE hL;have hin:∀g:Int,au L k<=g->g<=ay L k->aQ IntKind.i64 (g+1):=fun g h1 h2=>by simp only[aQ,cy];omega
 have hnn:∀g:Int,aQ IntKind.i64 (fX L (au L k) g k.oid+1):=fun g=>by
  have:=Cj (L:=L) (f:=au L k) (g:=g) (oid:=k.oid);have:=N9 (L:=L) (f:=au L k) (g:=g) (oid:=k.oid);simp only[aQ,cy];omega
 refine⟨⟨au L k,⟨by omega,by omega⟩,rfl,Fx,rfl,Ao.symm,(by(repeat' apply And.intro)<;>rfl)⟩,fun g hg=>⟨fun hgl=>?_,fun hgl=>?_⟩⟩
 ·obtain⟨g0,g1⟩:=hg;have hgl:=Tl hgl;have hgz:(ft L (au L k) g k.oid).length=L.length:=DK;have hgt:aH (ft L (au L k) g k.oid) g=aq L g.toNat free:=by rw[gw (by omega) (by omega),N8 (by omega)]
  rw[hgt];refine⟨rfl,rfl,fun hk=>⟨rfl,fun hb=>?_,fun hb=>?_⟩,fun hk=>?_⟩
  ·have hne:¬g=k.oid:=by
    simp only[Th,Bool.not_eq_true',decide_eq_false_iff_not]at hb;exact hb.2
   have hh:iG L g k.oid=true:=by unfold iG kE;rw[hk];simp[hne]
   have hs:=Ga (L:=L) (f:=au L k) (oid:=k.oid) (by omega:0<=g) (by omega) g0 hh
   have hs2:=LS (L:=L) (f:=au L k) (oid:=k.oid) (by omega:0<=g) (by omega) g0 hh
   have hp:=(lQ (L:=ft L (au L k) g k.oid) (i:=g) (by omega) (by omega) (hgz▸ub (dt hL g.toNat (by omega)))).1
   exact⟨rfl,rfl,hnn g,rfl,hin g g0 hgl,g+1,⟨by omega,by omega⟩,by omega,rfl,hp.trans hs2,rfl,hs.symm,(by(repeat' apply And.intro)<;>rfl)⟩
  ·have hh:iG L g k.oid=false:=by
    have e3:decide (au L k<=g)=true:=by simp;omega
    have e4:decide (g<=ay L k)=true:=by simp;omega
    rw[e3,e4]at hb;unfold iG;rw[Bool.and_eq_false_iff];right
    simpa using hb
   have hs:=AD (L:=L) (f:=au L k) (oid:=k.oid) (by omega:0<=g) g0 hh
   have hs2:=A2 (L:=L) (f:=au L k) (oid:=k.oid) (by omega:0<=g) g0 hh
   exact⟨rfl,hin g g0 hgl,g+1,⟨by omega,by omega⟩,by omega,rfl,hs2.symm,rfl,hs.symm,(by(repeat' apply And.intro)<;>rfl)⟩
  ·have hh:iG L g k.oid=false:=by unfold iG kE;rw[hk];rfl
   have hs:=AD (L:=L) (f:=au L k) (oid:=k.oid) (by omega:0<=g) g0 hh
   have hs2:=A2 (L:=L) (f:=au L k) (oid:=k.oid) (by omega:0<=g) g0 hh
   exact⟨rfl,hin g g0 hgl,g+1,⟨by omega,by omega⟩,by omega,rfl,hs2.symm,rfl,hs.symm,(by(repeat' apply And.intro)<;>rfl)⟩
 ·obtain⟨g0,g1⟩:=hg;have hgl:=Tk hgl;have:g=ay L k+1:=by omega
  subst this;exact⟨⟨by unfold gX;rw[To e],e.symm⟩,by unfold iu;rw[To e]⟩
theorem I3 (L:List Sx.Obj) (k:Key) (hL:an L):ai Tryz.prog 166 [.lp 0 0,.key k] [.store tS eS L] (zO (.tp [.it .i64 (gX L k),.it .i64 (aS L k)]) (iu L k)) (fun _ _=>False):=
 aK (inl:=(fun f=>f==153||f==152||f==155||f==156||f==159||f==1000000+186)) (ann:=(me [(5000+186,1,S2 [0,1] (fun(g:Int)=> [(3,.it .i64 g)]) (fun g=> [(0,.store tS eS (ft L (au L k) g k.oid)),(2,.blk 3 (.it .i64 (fX L (au L k) g k.oid)))]) (oP L k) (fun g=>nN (sJ (A0 (ay L k) 1) g)))])) (ab aX (ab bp (ab fM ak))) (aG c9 aA) (dO fy) (Gk L k hL) (by kernel_rfl)
theorem I7:ql Tryz.prog 166 Mu:=
 lh (m:=fun x=>kB.cn x 0) (rX Q5 (fun _=>rfl)) (fun _=>rfl) (fun _ _=>rfl) (fun x=>aK (inl:=(fun f=>f==153||f==152||f==155||f==156||f==159||f==1000000+186)) (ann:=aL) (ab aX (ab bp (ab fM ak))) (aG c9 aA) (dO fy) (Eo x.1) (by kernel_rfl)) (fun x=>aK (inl:=(fun f=>f==153||f==152||f==155||f==156||f==159||f==1000000+186)) (ann:=aL) (ab aX (ab bp (ab fM ak))) (aG c9 aA) (dO fy) (Ea x.1) (by kernel_rfl)) fun L x hL _ _=>I3 L x.1 hL
theorem DY (k:Key) (kind:Int):
 true=true/\true=true/\((!decide (0<ah []))=true->void=bS [] k kind/\1=cw [] k kind)/\((!decide (0<ah []))=false->true=true/\((!(aM [] k&&decide (k.kind=
  4)))=true->void=bS [] k kind/\190=cw [] k kind)/\((!(aM [] k&&decide (k.kind=4)))=false->true=true/\((!(decide (((aa [] k).slots.at 0).kind=1)&&decide (((aa []
  k).slots.at 1).kind=1)&&decide (0<=((aa [] k).slots.at 0).value)&&decide (((aa [] k).slots.at 0).value<=((aa [] k).slots.at 1).value)&&decide (((aa [] k).slots.at 1).value<
  ah [])))=true->void=bS [] k kind/\220=cw [] k kind)/\((!(decide (((aa [] k).slots.at 0).kind=1)&&decide (((aa [] k).slots.at 1).kind=1)&&decide (0<=((aa []
  k).slots.at 0).value)&&decide (((aa [] k).slots.at 0).value<=((aa [] k).slots.at 1).value)&&decide (((aa [] k).slots.at 1).value<ah [])))=false->true=true/\((!(decide (kind
  =1)||decide (kind=2)))=true->void=bS [] k kind/\2=cw [] k kind)/\((!(decide (kind=1)||decide (kind=2)))=false->true=true/\true=true/\true=true/\∀(r0:Loop),
  False)))):=by
 exact⟨rfl,rfl,fun h=>(sN (nI (C2 h) (by omega)) (by omega)).1,fun h=>absurd h (by decide)⟩
theorem Es (k:Key) (kind:Int):
 true=true/\true=true/\((!decide (0<ah []))=true->void=bS [] k kind/\1=cw [] k kind)/\((!decide (0<ah []))=false->true=true/\((!(aM [] k&&decide (k.kind=
  4)))=true->void=bS [] k kind/\190=cw [] k kind)/\((!(aM [] k&&decide (k.kind=4)))=false->true=true/\((!(decide (((aa [] k).slots.at 0).kind=1)&&decide (((aa []
  k).slots.at 1).kind=1)&&decide (0<=((aa [] k).slots.at 0).value)&&decide (((aa [] k).slots.at 0).value<=((aa [] k).slots.at 1).value)&&decide (((aa [] k).slots.at 1).value<
  ah [])))=true->void=bS [] k kind/\220=cw [] k kind)/\((!(decide (((aa [] k).slots.at 0).kind=1)&&decide (((aa [] k).slots.at 1).kind=1)&&decide (0<=((aa []
  k).slots.at 0).value)&&decide (((aa [] k).slots.at 0).value<=((aa [] k).slots.at 1).value)&&decide (((aa [] k).slots.at 1).value<ah [])))=false->true=true/\((!(decide (kind
  =1)||decide (kind=2)))=true->void=bS [] k kind/\2=cw [] k kind)/\((!(decide (kind=1)||decide (kind=2)))=false->true=true/\true=true/\true=true/\∀(r0:Loop),
  False)))):=by
 exact⟨rfl,rfl,fun h=>(sN (nI (C2 h) (by omega)) (by omega)).1,fun h=>absurd h (by decide)⟩
theorem G8 (L:List Sx.Obj) (k:Key) (kind:Int) (hL:an L):
 true=true/\true=true/\((!decide (0<ah L))=true->(void=bS L k kind/\1=cw L k kind)/\L=eO L k kind)/\((!decide (0<ah L))=false->true=true/\((!(aM L k&&
  decide (k.kind=4)))=true->(void=bS L k kind/\190=cw L k kind)/\L=eO L k kind)/\((!(aM L k&&decide (k.kind=4)))=false->true=true/\((!(decide (((aa L k).slots.at
  0).kind=1)&&decide (((aa L k).slots.at 1).kind=1)&&decide (0<=((aa L k).slots.at 0).value)&&decide (((aa L k).slots.at 0).value<=((aa L k).slots.at 1).value)&&decide
  (((aa L k).slots.at 1).value<ah L)))=true->(void=bS L k kind/\220=cw L k kind)/\L=eO L k kind)/\((!(decide (((aa L k).slots.at 0).kind=1)&&decide (((aa L
  k).slots.at 1).kind=1)&&decide (0<=((aa L k).slots.at 0).value)&&decide (((aa L k).slots.at 0).value<=((aa L k).slots.at 1).value)&&decide (((aa L k).slots.at 1).value<
  ah L)))=false->true=true/\((!(decide (kind=1)||decide (kind=2)))=true->(void=bS L k kind/\2=cw L k kind)/\L=eO L k kind)/\((!(decide (kind=1)||decide (kind=
  2)))=false->true=true/\true=true/\true=true/\∀(r0:Loop),(∃g,gD L k g/\((aa L k).slots.at 0).value=g/\L=bz L (au L k) g/\k=k/\void=void/\k=k/\aa L k
  =aa L k/\k.oid=k.oid/\((aa L k).slots.at 0).value=((aa L k).slots.at 0).value/\((aa L k).slots.at 1).value=((aa L k).slots.at 1).value/\aa L k=aa L k/\(aa
  L k).slots.at 0=(aa L k).slots.at 0/\(aa L k).slots.at 1=(aa L k).slots.at 1/\aa L k=aa L k/\k.oid=k.oid/\((aa L k).slots.at 0).value=((aa L k).slots.at
  0).value/\((aa L k).slots.at 1).value=((aa L k).slots.at 1).value/\aa L k=aa L k/\k.oid=k.oid/\((aa L k).slots.at 0).value=((aa L k).slots.at 0).value/\((aa L
  k).slots.at 1).value=((aa L k).slots.at 1).value/\kind=kind/\void=void/\false=false/\aa L k=aa L k/\k.oid=k.oid/\((aa L k).slots.at 0).value=((aa L k).slots.at
  0).value/\((aa L k).slots.at 1).value=((aa L k).slots.at 1).value/\r0=r0)/\∀(g:Int),gD L k g->(decide (g<=((aa L k).slots.at 1).value)=true->r0=r0/\r0=r0/\
  ((!decide ((aH (bz L (au L k) g) g).kind=0))=true->r0=r0/\aQ IntKind.i64 (g+1)/\∃g',gD L k g'/\(ay L k+1-g').toNat<(ay L k+1-g).toNat/\g+1=g'/\
  bz L (au L k) g=bz L (au L k) g'/\k=k/\void=void/\k=k/\aa L k=aa L k/\k.oid=k.oid/\((aa L k).slots.at 0).value=((aa L k).slots.at 0).value/\((aa L
  k).slots.at 1).value=((aa L k).slots.at 1).value/\aa L k=aa L k/\(aa L k).slots.at 0=(aa L k).slots.at 0/\(aa L k).slots.at 1=(aa L k).slots.at 1/\aa L k=
  aa L k/\k.oid=k.oid/\((aa L k).slots.at 0).value=((aa L k).slots.at 0).value/\((aa L k).slots.at 1).value=((aa L k).slots.at 1).value/\aa L k=aa L k/\k.oid=
  k.oid/\((aa L k).slots.at 0).value=((aa L k).slots.at 0).value/\((aa L k).slots.at 1).value=((aa L k).slots.at 1).value/\kind=kind/\void=void/\false=false/\aa L k=
  aa L k/\k.oid=k.oid/\((aa L k).slots.at 0).value=((aa L k).slots.at 0).value/\((aa L k).slots.at 1).value=((aa L k).slots.at 1).value/\r0=r0)/\((!decide ((aH (bz
  L (au L k) g) g).kind=0))=false->(decide ((aH (bz L (au L k) g) g).count=4294967295)=true->true=true/\r0=r0/\aQ IntKind.i64 (g+1)/\∃g',gD L k g'/\(ay L k
  +1-g').toNat<(ay L k+1-g).toNat/\g+1=g'/\cc (bz L (au L k) g) g (Obj.mk 3 (aH (bz L (au L k) g) g).count free.calls free.slots free.bytes)=bz L (au L k)
  g'/\k=k/\void=void/\k=k/\aa L k=aa L k/\k.oid=k.oid/\((aa L k).slots.at 0).value=((aa L k).slots.at 0).value/\((aa L k).slots.at 1).value=((aa L k).slots.at
  1).value/\aa L k=aa L k/\(aa L k).slots.at 0=(aa L k).slots.at 0/\(aa L k).slots.at 1=(aa L k).slots.at 1/\aa L k=aa L k/\k.oid=k.oid/\((aa L
  k).slots.at 0).value=((aa L k).slots.at 0).value/\((aa L k).slots.at 1).value=((aa L k).slots.at 1).value/\aa L k=aa L k/\k.oid=k.oid/\((aa L k).slots.at 0).value=
  ((aa L k).slots.at 0).value/\((aa L k).slots.at 1).value=((aa L k).slots.at 1).value/\kind=kind/\void=void/\false=false/\aa L k=aa L k/\k.oid=k.oid/\((aa L
  k).slots.at 0).value=((aa L k).slots.at 0).value/\((aa L k).slots.at 1).value=((aa L k).slots.at 1).value/\r0=r0)/\(decide ((aH (bz L (au L k) g) g).count=4294967295)=
  false->aQ IntKind.i64 ((aH (bz L (au L k) g) g).count+1)/\true=true/\aQ IntKind.i64 ((aH (bz L (au L k) g) g).count+1)/\r0=r0/\true=true/\(bI kind g ((aH
  (bz L (au L k) g) g).count+1)=bS L k kind/\0=cw L k kind)/\cc (bz L (au L k) g) g (Obj.mk kind ((aH (bz L (au L k) g) g).count+1) free.calls free.slots
  free.bytes)=eO L k kind)))/\(decide (g<=((aa L k).slots.at 1).value)=false->true=true/\(void=bS L k kind/\221=cw L k kind)/\bz L (au L k) g=eO L k kind))))):=by
 refine⟨rfl,rfl,fun h=>sN (nI (C2 h) (by omega)) (by omega),fun h=>⟨rfl,fun h2=>sN (nI (Q6 h h2) (by omega)) (by omega),fun h2=>⟨rfl,fun h3=>sN (nI (Rl h h2 h3) (by omega)) (by omega),fun h3=>⟨rfl,fun h4=>sN (Gn (L7 h h2 h3).1 h4) (by omega),fun h4=>⟨rfl,rfl,rfl,fun r0=>?_⟩⟩⟩⟩⟩
 obtain⟨e,e1,e2⟩:=L7 h h2 h3;obtain⟨_,a0,a1,a2,_⟩:=jT e;rw[e1,e2]
 have hk:kind=1\/kind=2:=by
  simp only[Bool.not_eq_false',Bool.or_eq_true,Ti]at h4;exact h4
 have hlen:=lE hL;have hin:∀g:Int,au L k<=g->g<=ay L k->aQ IntKind.i64 (g+1):=fun g h1 h2=>by simp only[aQ,cy];omega
 have hcnt:∀j:Nat,j<L.length->0<=(aq L j free).count/\(aq L j free).count<=4294967295:=fun j hj=>⟨(jg (dt hL j hj)).1,(jg (dt hL j hj)).2.1⟩
 have hci:∀j:Nat,j<L.length->aQ IntKind.i64 ((aq L j free).count+1):=fun j hj=>by have:=hcnt j hj;simp only[aQ,cy];omega
 refine⟨⟨au L k,⟨by omega,by omega,vi⟩,rfl,AY,(by(repeat' apply And.intro)<;>rfl)⟩,fun g hg=>⟨fun hgl=>?_,fun hgl=>?_⟩⟩
 ·obtain⟨g0,g1,g2⟩:=hg;have hgl:=Tl hgl;have hgn:g.toNat<L.length:=by omega
  have hgz:(bz L (au L k) g).length=L.length:=kq;have hgt:aH (bz L (au L k) g) g=aq L g.toNat free:=by rw[gw (by omega) (by omega),BE (by omega)]
  rw[hgt];refine⟨rfl,rfl,fun hk0=>?_,fun hk0=>⟨fun hc=>?_,fun hc=>?_⟩⟩
  ·obtain⟨f1,f2⟩:=CR (o:=aq L g.toNat free) (by simpa using hk0)
   exact⟨rfl,hin g g0 hgl,g+1,⟨by omega,by omega,mI g2 f2⟩,by omega,rfl,(Aq (by omega) f1).symm,(by(repeat' apply And.intro)<;>rfl)⟩
  ·obtain⟨f1,f2⟩:=G7 (o:=aq L g.toNat free) (by simpa using hk0) (by have:=Tl hc;omega)
   have hp:=(lQ (L:=bz L (au L k) g) (i:=g) (by omega) (by omega) (hgz▸yM (dt hL g.toNat hgn))).1
   exact⟨rfl,rfl,hin g g0 hgl,g+1,⟨by omega,by omega,mI g2 f2⟩,by omega,rfl,hp.trans (DT (by omega) (by omega) g0 f1),(by(repeat' apply And.intro)<;>rfl)⟩
  ·have hc:=Tk hc;have:=hcnt _ hgn;obtain⟨f1,f2⟩:=IM (o:=aq L g.toNat free) (by simpa using hk0) (by omega)
   obtain⟨m1,m2,m3⟩:=Df kind a0 g0 hgl (by omega) g2 f2
   obtain⟨n1,n2,n3,n4⟩:=Mr (kind:=kind) e hk (by rw[m1];omega)
   have hp:=(lQ (L:=bz L (au L k) g) (i:=g) (by omega) (by omega) (hgz▸yA (dt hL g.toNat hgn) f2 hk)).1
   refine⟨hci _ hgn,rfl,hci _ hgn,rfl,rfl,⟨?_,n3⟩,hp.trans (m3.symm.trans n4)⟩;have hK:bS L k kind=bI kind (dD L (au L k) (ay L k)) ((aq L (dD L (au L k) (ay L k)).toNat free).count+1):=by unfold bS;rw[To n3.symm]
   rw[hK,m1]
 ·obtain⟨g0,g1,g2⟩:=hg;have hgl:=Tk hgl;have:g=ay L k+1:=by omega
  subst this;obtain⟨m1,m2,m3⟩:=FY kind g2;obtain⟨n1,n2,n3,n4⟩:=GN (kind:=kind) e hk m1;exact⟨rfl,⟨n2,n3⟩,m2.symm.trans n4⟩
theorem GJ (L:List Sx.Obj) (k:Key) (kind:Int) (hL:an L):ai Tryz.prog 150 [.lp 0 0,.key k,.it .i64 kind] [.store tS eS L] (zO (.tp [.key (bS L k kind),.it .i64 (cw L k kind)]) (eO L k kind)) (fun _ _=>False):=
 aK (inl:=(fun f=>f==153||f==152||f==158||f==159||f==1000000+186)) (ann:=(me [(3000+186,1,RJ [0,1] (fun g=> [(3,.it .i64 g)]) 0 (fun g=> .store tS eS (bz L (au L k) g)) (gD L k) (A0 (ay L k) 1))])) (ab aX (ab bp (ab fM (ab pk ak)))) (aG c9 aA) (dO fy) (G8 L k kind hL) (by kernel_rfl)
theorem zC:ql Tryz.prog 150 MR:=
 lh (m:=fun x=>Rv.cn x 0) (rX Jv (fun _=>rfl)) (fun _=>rfl) (fun _ _=>rfl) (fun x=>aK (inl:=(fun f=>f==153||f==152||f==158||f==159||f==1000000+186)) (ann:=aL) (ab aX (ab bp (ab fM (ab pk ak)))) (aG c9 aA) (dO fy) (DY x.1 x.2.1) (by kernel_rfl)) (fun x=>aK (inl:=(fun f=>f==153||f==152||f==158||f==159||f==1000000+186)) (ann:=aL) (ab aX (ab bp (ab fM (ab pk ak)))) (aG c9 aA) (dO fy) (Es x.1 x.2.1) (by kernel_rfl)) fun L x hL _ _=>GJ L x.1 x.2.1 hL
end Go.Proofs.YtghpaegglbbocaaGreat
