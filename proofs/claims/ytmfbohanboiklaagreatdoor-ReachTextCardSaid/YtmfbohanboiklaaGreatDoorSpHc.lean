import Derived.Test.YtmfbohanboiklaaGreatDoorSpHb
set_option linter.unusedSimpArgs false
set_option linter.unusedVariables false
set_option maxRecDepth 100000
namespace Go.Sx
def Lv(l:TL):Option (List Cp):=
 match l with
 | .qs n l=>if n==5 then some l else none
 |_=>none
theorem Hu:∀l x,Lv l=some x->l=TL.qs 5 x:=fun l x h=>by
 unfold Lv at h;split at h
 ·split at h
  ·rename_i hn;have hn:=aj.1 hn;subst hn;simp only[aa]at h;subst h;rfl
  ·simp at h
 ·simp at h
def L5:Arg (List Cp):=KG 5 Lv (TL.qs 5)
theorem DN:mw L5:=HZ Hu
def xB(l:List Cp):Prop:=∀x∈l,x.length=5
def mN(l:List Cp):Prop:=xB l/\l.length<=1000000
def gn(L:List Obj)(oid:Int):Bool:=decide (bm L oid=0)
def xC(R:List Obj->Int->List Cp):pb:=LA (dH (Kt tS eS) (dH iA mj)) (fun x=>DO x.1) (fun x=>gn (KU x.1) x.2.1) (fun x=> .tp [L8,.it .i64 (bm (KU x.1) x.2.1)]) (fun _ n=> .tp [.sa n,.ci .i64 0]) fun x=> .arr (some sL) 5 (.qs 5 (R (KU x.1) x.2.1))
def GC:pb:=xC ka
def Fp:Ct:=FA (dH Br mj) (fun _=>none) fun x=> .key (nf x.1)
theorem at_mem{l:List Cp}{j:Nat}(h:j<l.length):gI l j∈l/\l[j]? =some (gI l j):=by
 unfold gI aX;rw[aq,List.getElem?_eq_getElem h];exact⟨List.getElem_mem h,rfl⟩
end Go.Sx
