import Derived.Test.YtmfbohanboiklaaGreatCtTe
import Derived.Test.YtmfbohanboiklaaGreatSpHk
import Derived.Test.YtmfbohanboiklaaGreatSM
set_option linter.unusedSimpArgs false
set_option linter.unusedVariables false
namespace Go.Proofs.YtmfbohanboiklaaGreat
open Go.Sx
set_option maxRecDepth 100000
theorem Da:cQ Tryz.prog 29 wc:=DR D3
theorem C8 (oid:Int) (p:EJ) (hs:pk p.data):
 fy IntKind.i64 (Cr p.data)/\(decide (100<Cr p.data)=true->true=true)/\(decide (100<Cr p.data)=false->true=true/\xW none/\(ef [] oid=false->true=true/\(cH 4=
  false->true=true/\true=true/\((decide (aF [] oid=1)||false||false||false||false)=true->true=true/\true=true/\true=true)/\((decide (aF [] oid=1)||false||false||
  false||false)=false->false=true))/\(cH 4=true->true=true/\true=true/\((decide (ee (dJ 4)=0)||true)=true->((decide (aF [] oid=1)||false||false||false||
  false)=true->true=true/\true=true/\true=true)/\((decide (aF [] oid=1)||false||false||false||false)=false->false=true))/\((decide (ee (dJ 4)=0)||true)=false->
  ((!decide (ee (dJ 4)=0))=true->((!(decide (aF [] oid=1)||false||false||false)&&false)=true->true=true/\true=true/\true=true)/\((!(decide (aF [] oid=1)||false
  ||false||false)&&false)=false->false=true))/\((!decide (ee (dJ 4)=0))=false->False))))/\(ef [] oid=true->true=true/\(cH 4=false->true=true/\true=true/\
  ((!decide (dp (ar (eT [] oid))=0)&&false||false||false||false||false)=true->true=true/\true=true/\true=true)/\((!decide (dp (ar (eT [] oid))=0)&&false||false
  ||false||false||false)=false->false=true))/\(cH 4=true->true=true/\true=true/\((decide (ee (dJ 4)=0)||true)=true->((!decide (dp (ar (eT [] oid))=0)&&
  false||false||false||false||false)=true->true=true/\true=true/\true=true)/\((!decide (dp (ar (eT [] oid))=0)&&false||false||false||false||false)=false->false=
  true))/\((decide (ee (dJ 4)=0)||true)=false->((!decide (ee (dJ 4)=0))=true->((!(!decide (dp (ar (eT [] oid))=0)&&false||false||false||false)&&false)=true
  ->true=true/\true=true/\true=true)/\((!(!decide (dp (ar (eT [] oid))=0)&&false||false||false||false)&&false)=false->false=true))/\((!decide (ee (dJ 4)=0))=
  false->False))))):=by
 have h1:aF [] oid=1:=by unfold aF ar;simp
 have hb:ef [] oid=false:=by unfold ef;rw[h1];rfl
 have hn:cH 4=true:=by decide
 have hz:Cr p.data<=9223372036854775807:=hs;have h0:0<=Cr p.data:=Int.natCast_nonneg _;refine⟨by simp only[fy,br];omega,fun _=>rfl,fun _=>⟨rfl,trivial,fun _=>?_,fun h=>by rw[hb]at h;simp at h⟩⟩
 rw[h1,hn];refine⟨rfl,fun h=>by simp at h,fun _=>⟨rfl,rfl,fun _=>⟨fun _=>⟨rfl,rfl,rfl⟩,fun h=>by simp at h⟩,fun h=>by simp at h⟩⟩
theorem CG (oid:Int) (p:EJ) (hs:pk p.data):ah Tryz.prog 4 [.it .i64 oid,HY p] [] (sq (.bo true)) (fun _ _=>False):=
 dM (inl:=(fun f=>f==15||f==11||f==16)) (ann:=cm) (az BE (az Da aS)) (bI A8 (bI zS dR)) (C8 oid p hs) (by kernel_rfl)
end Go.Proofs.YtmfbohanboiklaaGreat
