import Derived.Test.YtmfbohanboiklaaGreatDoorSpHd
import Derived.Lib.ItoaLen
import Derived.Lib.Join
set_option linter.unusedSimpArgs false
set_option linter.unusedVariables false
namespace Go.Sx
open Go.RowKit (Below)
def iR(n:Int):ByteArray:=⟨(Lib.itoa n).toArray⟩
def ec:ByteArray:=⟨#[32]⟩
def bC(l:List ByteArray):ByteArray:=⟨(Lib.join (l.map (·.data.toList)) [32]).toArray⟩
def qW(b:Bool)(n:Int):List ByteArray:=if b then[iR n]else[]
def rR(k:Key):List ByteArray:=aL k::(qW (bH k.kind) k.oid++qW (bH k.kind) k.count++qW (dL k.kind) k.rights++qW (bz k.kind) k.call++qW (bg k.kind) k.value)
def cZ(k:Key):ByteArray:=bC (rR k)
def ca(k:Key):ByteArray:=if aP k then cZ k else⟨#[]⟩
theorem jv(n:Int)(h:bU .i64 n):(iR n).size<=21:=by
 have:=Lib.itoa_length_le n h.1 h.2;simpa[iR,ByteArray.size]using this
theorem Bc(l:List ByteArray)(x:ByteArray)(h:l≠ []):bC (l++ [x])=uG (uG (bC l) ec) x:=by
 cases l with
 |nil=>exact(h rfl).elim
 |cons y r=>
  unfold bC uG ec;simp only[List.cons_append,List.map_cons,List.map_append,List.map_nil,Lib.join_cons,Lib.joinTail,List.map_append,List.flatten_append,List.map_cons,List.map_nil,List.flatten_cons,List.flatten_nil,List.append_nil];apply ByteArray.ext
  simp[ByteArray.data_append]
theorem za{m:Nat}:∀(r:List ByteArray),(∀x∈r,x.size<=m)->Lib.lens (r.map (·.data.toList))<=r.length*m
 | [],_=>Nat.zero_le _
 |z::r,h=>by
  have h1:z.data.toList.length<=m:=h z (by simp)
  have h2:=za r fun x hx=>h x (by simp[hx])
  rw[List.length_cons,Nat.succ_mul];have e:Lib.lens ((z::r).map (·.data.toList))=z.data.toList.length+Lib.lens (r.map (·.data.toList)):=by simp[Lib.lens]
  omega
theorem Ee{l:List ByteArray}{m:Nat}(h:∀x∈l,x.size<=m):(Lib.join (l.map (·.data.toList)) [32]).length<=l.length*(m+1):=by
 cases l with
 |nil=>exact Nat.zero_le _
 |cons y r=>
  have h3:=za (y::r) h;rw[List.map_cons,Lib.join_length,Nat.mul_succ];rw[List.map_cons]at h3;simp only[List.length_cons,List.length_nil,List.length_map]at h3⊢;omega
def EY(k:Key):Key:=⟨k.kind,k.oid,k.count,k.call,k.rights,0⟩
def mA(k:Key):Bool:=decide (2<=k.kind)&&decide (k.kind<=10)
def iQ(k:Key):ByteArray:=if mA k then ca (EY k)else⟨#[]⟩
def iv(k:Key):Int:=if mA k then aU (EY k)else 2
def ma(l:List Cp)(g:Int):Prop:=0<=g/\g<=(l.length:Int)
def cN(l:List ByteArray):Prop:=(∀x∈l,x.size<=64)/\l.length<=1000
abbrev fW:ByteArray:=ByteArray.mk (Array.mk [(32:UInt8)])
abbrev dq(a:ByteArray)(n:Int):ByteArray:=uG (uG a fW) (iR n)
abbrev xu(a:ByteArray)(n:Int):Prop:=jC (uG a fW) (iR n)
abbrev LP:List ByteArray:= [ByteArray.mk (Array.mk [(118:UInt8),(111:UInt8),(105:UInt8),(100:UInt8)]),ByteArray.mk (Array.mk [(110:UInt8),(117:UInt8),(109:UInt8),(98:UInt8),(101:UInt8),(114:UInt8)]),ByteArray.mk (Array.mk [(110:UInt8),(111:UInt8),(100:UInt8),(101:UInt8)]),ByteArray.mk (Array.mk [(112:UInt8),(97:UInt8),(103:UInt8),(101:UInt8)]),ByteArray.mk (Array.mk [(98:UInt8),(97:UInt8),(110:UInt8),(107:UInt8)]),ByteArray.mk (Array.mk [(112:UInt8),(114:UInt8),(111:UInt8),(99:UInt8)]),ByteArray.mk (Array.mk [(115:UInt8),(116:UInt8),(97:UInt8),(114:UInt8),(116:UInt8)]),ByteArray.mk (Array.mk [(114:UInt8),(101:UInt8),(115:UInt8),(117:UInt8),(109:UInt8),(101:UInt8)]),ByteArray.mk (Array.mk [(100:UInt8),(105:UInt8),(115:UInt8),(99:UInt8),(114:UInt8),(105:UInt8),(109:UInt8)]),ByteArray.mk (Array.mk [(99:UInt8),(108:UInt8),(111:UInt8),(99:UInt8),(107:UInt8)]),ByteArray.mk (Array.mk [(99:UInt8),(104:UInt8),(101:UInt8),(99:UInt8),(107:UInt8)])]
abbrev gA(k:Key):ByteArray:=aX LP k.kind.toNat (ByteArray.mk (Array.mk []))
theorem Eh(a:ByteArray)(n:Int):(dq a n).size=a.size+1+(iR n).size:=by
 show((a++fW)++iR n).size=_
 rw[ByteArray.size_append,ByteArray.size_append];rfl
theorem C7(a:ByteArray):(uG a fW).size=a.size+1:=by
 show(a++fW).size=_
 rw[ByteArray.size_append];rfl
theorem tq(a:ByteArray):bC [a]=a:=by
 unfold bC;rw[List.map_cons,List.map_nil,Lib.join_one]
theorem Du{l:List ByteArray}(n:Int)(h:l≠ []):dq (bC l) n=bC (l++ [iR n]):=(Bc l (iR n) h).symm
theorem Ex:∀n:Fin 11,aX LP n.1 (ByteArray.mk (Array.mk []))=gG n.1/\(aX LP n.1 (ByteArray.mk (Array.mk []))).size<=7:=by decide
theorem Eg{k:Key}(h:jz k=true):gA k=bC [aL k]/\(gA k).size<=7/\0<=k.kind/\k.kind<11:=by
 have h':=h;unfold jz at h';simp only[ah,ai]at h';obtain⟨a,b⟩:=Ex ⟨k.kind.toNat,by omega⟩
 rw[tq];unfold aL;rw[au h];exact⟨a,b,h'.1,by omega⟩
theorem F2{k:Key}(hk:k.wf)(h:jz k=true):cN (rR k):=by
 obtain⟨h1,h2,h3,h4,h5,h6⟩:=hk;have hn:=Eg h;rw[hn.1,tq]at hn
 have g:∀b n,bU .i64 n->∀x∈qW b n,x.size<=64:=fun b n hn x hx=>by
  unfold qW at hx;split at hx
  ·simp only[List.mem_singleton]at hx;subst hx;have:=jv n hn;omega
  ·simp at hx
 have gl:∀b n,(qW b n).length<=1:=fun b n=>by unfold qW;split<;>simp
 refine⟨fun x hx=>?_,?_⟩
 ·simp only[rR,List.mem_cons,List.mem_append]at hx;rcases hx with rfl| ((((hx|hx)|hx)|hx)|hx)
  ·omega
  ·exact g _ _ h2 x hx
  ·exact g _ _ h3 x hx
  ·exact g _ _ h5 x hx
  ·exact g _ _ h4 x hx
  ·exact g _ _ h6 x hx
 ·simp only[rR,List.length_cons,List.length_append];have:=gl (bH k.kind) k.oid;have:=gl (bH k.kind) k.count;have:=gl (dL k.kind) k.rights;have:=gl (bz k.kind) k.call;have:=gl (bg k.kind) k.value;omega
abbrev bk(l:List ByteArray)(n:Int):List ByteArray:=bN l (iR n)
abbrev xA(l:List Cp)(g:Int):Key:=Key.mk (cr l g.toNat 0) (cr l g.toNat 1) (cr l g.toNat 2) (cr l g.toNat 3) (cr l g.toNat 4) 0
theorem HQ{k:Key}(e:EY k=k)(h:(decide (k.kind<2)||decide (10<k.kind)|| !decide (aU k=0))=true):iQ k=⟨#[]⟩/\iv k=2:=by
 unfold iQ iv;rw[e];cases hc:mA k with
 |false=>exact⟨rfl,rfl⟩
 |true=>
  unfold mA at hc;simp only[ah,ai]at hc
  have:aP k=false:=by
   cases hk:aP k with
   |false=>rfl
   |true=>
    simp[aU,hk]at h;omega
  simp[ca,aU,this]
theorem F6{k:Key}(e:EY k=k)(h:(decide (k.kind<2)||decide (10<k.kind)|| !decide (aU k=0))=false):jz k=true/\iv k=0/\iQ k=cZ k:=by
 simp only[Bool.or_eq_false_iff,decide_eq_false_iff_not,Bool.not_eq_false',ai]at h;obtain⟨⟨h1,h2⟩,h3⟩:=h;have hc:mA k=true:=by unfold mA;simp only[ah,ai];omega
 have hk:aP k=true:=by
  cases hk:aP k with
  |true=>rfl
  |false=>simp[aU,hk]at h3
 unfold iQ iv;rw[e,hc];refine⟨by unfold jz;simp only[ah,ai];omega,h3,?_⟩
 simp[ca,hk]
def xE:List aI->Nat->Option Nat
 | [],_=>none
 |r::l,i=>match r with
  | .pin=>some i
  | .ro r=>match r with
    | .pin=>some i
    |_=>xE l (i+1)
  |_=>xE l (i+1)
theorem tC:∀(l:List aI) (i k:Nat),xE l i=some k->i<=k/\bD l (k-i)= .pin
 | [],i,k,h=>by simp[xE]at h
 |r::l,i,k,h=>by
  have go:xE l (i+1)=some k->i<=k/\bD (r::l) (k-i)= .pin:=fun h=>by
   obtain⟨h1,h2⟩:=tC l (i+1) k h;refine⟨by omega,?_⟩
   rw[show k-i=(k-(i+1))+1 by omega]
   exact h2
  unfold xE at h;split at h
  ·simp only[aa]at h;subst h;exact⟨Nat.le_refl _,by simp[bD,aH]⟩
  ·split at h
   ·simp only[aa]at h;subst h;exact⟨Nat.le_refl _,by simp[bD,aH]⟩
   ·exact go h
  ·exact go h
def vt{α:Type}(B:jA α):jA α:=⟨fun res l=>match xE res 0 with
    |some k=>match B.rd res l with
     |some (p,a)=>some ((k,.pin)::p,a)
     |none=>none
    |none=>none,fun x n=>B.cn x (n+1),fun x=> .pin::B.pl x⟩
theorem n4{α:Type}{B:jA α}(hB:hX B):hX (vt B):=by
 intro res l pls a h;simp only[vt]at h;split at h
 case h_2=>simp at h
 rename_i k hk;split at h
 case h_2=>simp at h
 rename_i p a' hp;simp only[aa,ae]at h;obtain⟨rfl,rfl⟩:=h;obtain⟨b1,b2,b3,b4⟩:=hB _ _ _ _ hp;have hs:=(tC res 0 k hk).2;refine⟨by simp[vt,b1],fun q hq=>?_,fun hc n=>b3 hc _,fun pre post=>?_⟩
 ·rcases List.mem_cons.1 hq with rfl|hq
  ·exact⟨kp.look hs (by simp),rfl⟩
  ·exact b2 q hq
 ·have:=b4 (pre++ [(k,.pin)]) post;simp only[List.append_assoc,List.cons_append,List.nil_append,List.length_append,List.length_singleton]at this;exact this
def DS:V->Option Unit
 | .ci k n=>if k== .i64&&decide (n=10)then some ()else none
 |_=>none
theorem FY:nY DS fun _=> .ci .i64 10:=by
 intro v x h;unfold DS at h;split at h
 ·split at h
  ·rename_i hc;simp only[ah,aj,ai]at hc;obtain⟨rfl,rfl⟩:=hc;exact⟨fun _=>rfl,fun _ h=>h⟩
  ·simp at h
 ·simp at h
def J5:Ct:=FA (vt (dH iA (dH (Al DS fun _=> .ci .i64 10) mj))) (fun _=>none) fun a=> .st (iR a.1)
def Kw:Ct:=FA (vt (dH iA mj)) (fun _=>none) fun a=> .st (iR a.1)
def Jt:Ct:=FA (vt (dH Br mj)) (fun _=>none) fun a=> .tp [.st (iQ (nf a.1)),.it .i64 (iv (nf a.1))]
def Js:Ct:=FA (vt (dH kA mj)) (fun a=>some (jz a.1=true)) fun a=> .st (cZ a.1)
def Kp:Ct:=FA (vt (dH kA mj)) (fun _=>none) fun a=> .tp [.st (ca a.1),.it .i64 (aU a.1)]
def D5:pb:=fun args res K=>match args with
 | [.sa k,.st s]=>match aH res k with
   | .arr o z t=>match o with
     |some _=>match t with
      | .st l=>if z==1 then s=ec/\cN l/\K (.st (bC l)) res else False
      |_=>False
     |none=>False
   |_=>False
 |_=>False
end Go.Sx
