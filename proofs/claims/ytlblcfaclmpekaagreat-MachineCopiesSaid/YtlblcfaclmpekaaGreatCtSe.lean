import Derived.Test.YtlblcfaclmpekaaGreatCtSd
set_option linter.unusedSimpArgs false
set_option linter.unusedVariables false
namespace Go.Proofs.YtlblcfaclmpekaaGreat
open Go.Sx
set_option maxRecDepth 100000
theorem Ou (n:Int) (x y:List k9) (hx:pA x) (hy:pA y) (hlx:an x<=140737488355328) (hly:an y<=140737488355328):
 true=true/\true=true/\(fy n=false->aP IntKind.i64 (bU (an x)+bU (an y))/\((!decide (40<bU (an x)+bU (an y)))=true->nG (ai x))/\((!(decide (40<bU (an x)
  +bU (an y))||iS (ai x)))=true->nG (ai y))/\((decide (40<bU (an x)+bU (an y))||iS (ai x)||iS (ai y)||true)=true->true=true)/\((decide (40<bU (an
  x)+bU (an y))||iS (ai x)||iS (ai y)||true)=false->true=true/\False))/\(fy n=true->(decide (n<4)=true->aP IntKind.i64 (bU (an x)+bU (an y))/\((!decide
  (40<bU (an x)+bU (an y)))=true->nG (ai x))/\((!(decide (40<bU (an x)+bU (an y))||iS (ai x)))=true->nG (ai y))/\((decide (40<bU (an x)+bU (an y))
  ||iS (ai x)||iS (ai y)||true)=true->true=true)/\((decide (40<bU (an x)+bU (an y))||iS (ai x)||iS (ai y)||true)=false->true=true/\False))/\(decide
  (n<4)=false->true=true/\true=true/\aP IntKind.i64 (n-1)/\true=true/\true=true/\true=true/\aP IntKind.i64 (bU (an x)+bU (an y))/\((!decide (40<bU (an x)+bU
  (an y)))=true->nG (ai x))/\((!(decide (40<bU (an x)+bU (an y))||iS (ai x)))=true->nG (ai y))/\((decide (40<bU (an x)+bU (an y))||iS (ai x)||
  iS (ai y)||false)=true->true=true)/\((decide (40<bU (an x)+bU (an y))||iS (ai x)||iS (ai y)||false)=false->true=true/\oK (ai x) (ab n) 0/\true=
  true/\true=true/\true=true/\(an (aL (ai x) (ab n) 0 (au (ai x) (ab n) 0))).le 1000/\(aR (aL (ai x) (ab n) 0 (au (ai x) (ab n) 0))=true->true=
  true/\true=true/\true=true/\(an (aL (ai x) (ab n) 0 (au (ai x) (ab n) 0))).le 1000/\(aR (aL (ai x) (ab n) 0 (au (ai x) (ab n) 0))=true->true=
  true/\true=true/\true=true/\true=true/\false=true)/\(aR (aL (ai x) (ab n) 0 (au (ai x) (ab n) 0))=false->true=true/\true=true/\true=true/\true=true/\
  false=true))/\(aR (aL (ai x) (ab n) 0 (au (ai x) (ab n) 0))=false->true=true/\true=true/\true=true/\(an (aL (ai x) (ab n) 0 (au (ai x) (ab
  n) 0))).le 1000/\(aR (aL (ai x) (ab n) 0 (au (ai x) (ab n) 0))=true->true=true/\true=true/\true=true/\(decide (aO (ai x) (ab n) 0 (au (ai x)
  (ab n) 0)=aO (ai x) (ab n) 0 (au (ai x) (ab n) 0))=true->ia (aL (ai x) (ab n) 0 (au (ai x) (ab n) 0))/\ia (aL (ai x) (ab n) 0 (au
  (ai x) (ab n) 0)))/\((!(decide (aO (ai x) (ab n) 0 (au (ai x) (ab n) 0)=aO (ai x) (ab n) 0 (au (ai x) (ab n) 0))&&cX (aL (ai x) (ab n)
  0 (au (ai x) (ab n) 0)) (aL (ai x) (ab n) 0 (au (ai x) (ab n) 0))))=true->false=true)/\((!(decide (aO (ai x) (ab n) 0 (au (ai x) (ab n) 0)=
  aO (ai x) (ab n) 0 (au (ai x) (ab n) 0))&&cX (aL (ai x) (ab n) 0 (au (ai x) (ab n) 0)) (aL (ai x) (ab n) 0 (au (ai x) (ab n) 0))))=
  false->true=true/\oK (ai y) (aL (ai x) (ab n) 0 (au (ai x) (ab n) 0)) (aO (ai x) (ab n) 0 (au (ai x) (ab n) 0))/\true=true/\true=true/\true=
  true/\(an (aL (ai x) (ab n) 0 (au (ai x) (ab n) 0))).le 1000/\(aR (aL (ai x) (ab n) 0 (au (ai x) (ab n) 0))=true->(ia []/\ia [])/\((!cX
  [] [])=true->false=true)/\((!cX [] [])=false->true=true/\oK (ai y) (aL (ai x) (ab n) 0 (au (ai x) (ab n) 0)) (aO (ai x) (ab n) 0 (au (ai x)
  (ab n) 0))/\true=true/\true=true/\true=true/\(decide (aO (ai y) (aL (ai x) (ab n) 0 (au (ai x) (ab n) 0)) (aO (ai x) (ab n) 0 (au (ai x) (ab
  n) 0)) (au (ai y) (aL (ai x) (ab n) 0 (au (ai x) (ab n) 0)) (aO (ai x) (ab n) 0 (au (ai x) (ab n) 0)))=aO (ai y) (aL (ai x) (ab n) 0 (au
  (ai x) (ab n) 0)) (aO (ai x) (ab n) 0 (au (ai x) (ab n) 0)) (au (ai y) (aL (ai x) (ab n) 0 (au (ai x) (ab n) 0)) (aO (ai x) (ab n) 0 (au
  (ai x) (ab n) 0))))=true->ia (aL (ai y) (aL (ai x) (ab n) 0 (au (ai x) (ab n) 0)) (aO (ai x) (ab n) 0 (au (ai x) (ab n) 0)) (au (ai y)
  (aL (ai x) (ab n) 0 (au (ai x) (ab n) 0)) (aO (ai x) (ab n) 0 (au (ai x) (ab n) 0))))/\ia (aL (ai y) (aL (ai x) (ab n) 0 (au (ai x)
  (ab n) 0)) (aO (ai x) (ab n) 0 (au (ai x) (ab n) 0)) (au (ai y) (aL (ai x) (ab n) 0 (au (ai x) (ab n) 0)) (aO (ai x) (ab n) 0 (au (ai x)
  (ab n) 0)))))/\(decide (aO (ai y) (aL (ai x) (ab n) 0 (au (ai x) (ab n) 0)) (aO (ai x) (ab n) 0 (au (ai x) (ab n) 0)) (au (ai y) (aL (ai x)
  (ab n) 0 (au (ai x) (ab n) 0)) (aO (ai x) (ab n) 0 (au (ai x) (ab n) 0)))=aO (ai y) (aL (ai x) (ab n) 0 (au (ai x) (ab n) 0)) (aO (ai
  x) (ab n) 0 (au (ai x) (ab n) 0)) (au (ai y) (aL (ai x) (ab n) 0 (au (ai x) (ab n) 0)) (aO (ai x) (ab n) 0 (au (ai x) (ab n) 0))))&&cX
  (aL (ai y) (aL (ai x) (ab n) 0 (au (ai x) (ab n) 0)) (aO (ai x) (ab n) 0 (au (ai x) (ab n) 0)) (au (ai y) (aL (ai x) (ab n) 0 (au (ai x)
  (ab n) 0)) (aO (ai x) (ab n) 0 (au (ai x) (ab n) 0)))) (aL (ai y) (aL (ai x) (ab n) 0 (au (ai x) (ab n) 0)) (aO (ai x) (ab n) 0 (au (ai
  x) (ab n) 0)) (au (ai y) (aL (ai x) (ab n) 0 (au (ai x) (ab n) 0)) (aO (ai x) (ab n) 0 (au (ai x) (ab n) 0))))&&true)=true))/\(aR (aL
  (ai x) (ab n) 0 (au (ai x) (ab n) 0))=false->(ia (aL (ai x) (ab n) 0 (au (ai x) (ab n) 0))/\ia [])/\((!cX (aL (ai x) (ab n) 0 (au (ai
  x) (ab n) 0)) [])=true->false=true)/\((!cX (aL (ai x) (ab n) 0 (au (ai x) (ab n) 0)) [])=false->true=true/\oK (ai y) (aL (ai x) (ab n) 0 (au
  (ai x) (ab n) 0)) (aO (ai x) (ab n) 0 (au (ai x) (ab n) 0))/\true=true/\true=true/\true=true/\(decide (aO (ai y) (aL (ai x) (ab n) 0 (au (ai x)
  (ab n) 0)) (aO (ai x) (ab n) 0 (au (ai x) (ab n) 0)) (au (ai y) (aL (ai x) (ab n) 0 (au (ai x) (ab n) 0)) (aO (ai x) (ab n) 0 (au (ai x)
  (ab n) 0)))=aO (ai y) (aL (ai x) (ab n) 0 (au (ai x) (ab n) 0)) (aO (ai x) (ab n) 0 (au (ai x) (ab n) 0)) (au (ai y) (aL (ai x) (ab n)
  0 (au (ai x) (ab n) 0)) (aO (ai x) (ab n) 0 (au (ai x) (ab n) 0))))=true->ia (aL (ai y) (aL (ai x) (ab n) 0 (au (ai x) (ab n) 0)) (aO
  (ai x) (ab n) 0 (au (ai x) (ab n) 0)) (au (ai y) (aL (ai x) (ab n) 0 (au (ai x) (ab n) 0)) (aO (ai x) (ab n) 0 (au (ai x) (ab n) 0))))/\
  ia (aL (ai y) (aL (ai x) (ab n) 0 (au (ai x) (ab n) 0)) (aO (ai x) (ab n) 0 (au (ai x) (ab n) 0)) (au (ai y) (aL (ai x) (ab n) 0 (au
  (ai x) (ab n) 0)) (aO (ai x) (ab n) 0 (au (ai x) (ab n) 0)))))/\(decide (aO (ai y) (aL (ai x) (ab n) 0 (au (ai x) (ab n) 0)) (aO (ai x)
  (ab n) 0 (au (ai x) (ab n) 0)) (au (ai y) (aL (ai x) (ab n) 0 (au (ai x) (ab n) 0)) (aO (ai x) (ab n) 0 (au (ai x) (ab n) 0)))=aO (ai
  y) (aL (ai x) (ab n) 0 (au (ai x) (ab n) 0)) (aO (ai x) (ab n) 0 (au (ai x) (ab n) 0)) (au (ai y) (aL (ai x) (ab n) 0 (au (ai x) (ab n)
  0)) (aO (ai x) (ab n) 0 (au (ai x) (ab n) 0))))&&cX (aL (ai y) (aL (ai x) (ab n) 0 (au (ai x) (ab n) 0)) (aO (ai x) (ab n) 0 (au (ai x)
  (ab n) 0)) (au (ai y) (aL (ai x) (ab n) 0 (au (ai x) (ab n) 0)) (aO (ai x) (ab n) 0 (au (ai x) (ab n) 0)))) (aL (ai y) (aL (ai x) (ab n)
  0 (au (ai x) (ab n) 0)) (aO (ai x) (ab n) 0 (au (ai x) (ab n) 0)) (au (ai y) (aL (ai x) (ab n) 0 (au (ai x) (ab n) 0)) (aO (ai x) (ab n)
  0 (au (ai x) (ab n) 0))))&&true)=true))))/\(aR (aL (ai x) (ab n) 0 (au (ai x) (ab n) 0))=false->true=true/\true=true/\true=true/\(decide (aO (ai
  x) (ab n) 0 (au (ai x) (ab n) 0)=aO (ai x) (ab n) 0 (au (ai x) (ab n) 0))=true->ia (aL (ai x) (ab n) 0 (au (ai x) (ab n) 0))/\ia
  (aL (ai x) (ab n) 0 (au (ai x) (ab n) 0)))/\((!(decide (aO (ai x) (ab n) 0 (au (ai x) (ab n) 0)=aO (ai x) (ab n) 0 (au (ai x) (ab n) 0))
  &&cX (aL (ai x) (ab n) 0 (au (ai x) (ab n) 0)) (aL (ai x) (ab n) 0 (au (ai x) (ab n) 0))))=true->false=true)/\((!(decide (aO (ai x) (ab n) 0
  (au (ai x) (ab n) 0)=aO (ai x) (ab n) 0 (au (ai x) (ab n) 0))&&cX (aL (ai x) (ab n) 0 (au (ai x) (ab n) 0)) (aL (ai x) (ab n) 0
  (au (ai x) (ab n) 0))))=false->true=true/\oK (ai y) (aL (ai x) (ab n) 0 (au (ai x) (ab n) 0)) (aO (ai x) (ab n) 0 (au (ai x) (ab n) 0))/\
  true=true/\true=true/\true=true/\(an (aL (ai x) (ab n) 0 (au (ai x) (ab n) 0))).le 1000/\(aR (aL (ai x) (ab n) 0 (au (ai x) (ab n) 0))=true->
  (ia []/\ia (aL (ai x) (ab n) 0 (au (ai x) (ab n) 0)))/\((!cX [] (aL (ai x) (ab n) 0 (au (ai x) (ab n) 0)))=true->false=true)/\((!cX []
  (aL (ai x) (ab n) 0 (au (ai x) (ab n) 0)))=false->true=true/\oK (ai y) (aL (ai x) (ab n) 0 (au (ai x) (ab n) 0)) (aO (ai x) (ab n) 0 (au
  (ai x) (ab n) 0))/\true=true/\true=true/\true=true/\(decide (aO (ai y) (aL (ai x) (ab n) 0 (au (ai x) (ab n) 0)) (aO (ai x) (ab n) 0 (au (ai x)
  (ab n) 0)) (au (ai y) (aL (ai x) (ab n) 0 (au (ai x) (ab n) 0)) (aO (ai x) (ab n) 0 (au (ai x) (ab n) 0)))=aO (ai y) (aL (ai x) (ab n)
  0 (au (ai x) (ab n) 0)) (aO (ai x) (ab n) 0 (au (ai x) (ab n) 0)) (au (ai y) (aL (ai x) (ab n) 0 (au (ai x) (ab n) 0)) (aO (ai x) (ab n)
  0 (au (ai x) (ab n) 0))))=true->ia (aL (ai y) (aL (ai x) (ab n) 0 (au (ai x) (ab n) 0)) (aO (ai x) (ab n) 0 (au (ai x) (ab n) 0)) (au
  (ai y) (aL (ai x) (ab n) 0 (au (ai x) (ab n) 0)) (aO (ai x) (ab n) 0 (au (ai x) (ab n) 0))))/\ia (aL (ai y) (aL (ai x) (ab n) 0 (au (ai
  x) (ab n) 0)) (aO (ai x) (ab n) 0 (au (ai x) (ab n) 0)) (au (ai y) (aL (ai x) (ab n) 0 (au (ai x) (ab n) 0)) (aO (ai x) (ab n) 0 (au (ai
  x) (ab n) 0)))))/\(decide (aO (ai y) (aL (ai x) (ab n) 0 (au (ai x) (ab n) 0)) (aO (ai x) (ab n) 0 (au (ai x) (ab n) 0)) (au (ai y) (aL (ai
  x) (ab n) 0 (au (ai x) (ab n) 0)) (aO (ai x) (ab n) 0 (au (ai x) (ab n) 0)))=aO (ai y) (aL (ai x) (ab n) 0 (au (ai x) (ab n) 0)) (aO
  (ai x) (ab n) 0 (au (ai x) (ab n) 0)) (au (ai y) (aL (ai x) (ab n) 0 (au (ai x) (ab n) 0)) (aO (ai x) (ab n) 0 (au (ai x) (ab n) 0))))&&
  cX (aL (ai y) (aL (ai x) (ab n) 0 (au (ai x) (ab n) 0)) (aO (ai x) (ab n) 0 (au (ai x) (ab n) 0)) (au (ai y) (aL (ai x) (ab n) 0 (au
  (ai x) (ab n) 0)) (aO (ai x) (ab n) 0 (au (ai x) (ab n) 0)))) (aL (ai y) (aL (ai x) (ab n) 0 (au (ai x) (ab n) 0)) (aO (ai x) (ab n) 0
  (au (ai x) (ab n) 0)) (au (ai y) (aL (ai x) (ab n) 0 (au (ai x) (ab n) 0)) (aO (ai x) (ab n) 0 (au (ai x) (ab n) 0))))&&true)=true))/\
  (aR (aL (ai x) (ab n) 0 (au (ai x) (ab n) 0))=false->(ia (aL (ai x) (ab n) 0 (au (ai x) (ab n) 0))/\ia (aL (ai x) (ab n) 0 (au (ai
  x) (ab n) 0)))/\((!cX (aL (ai x) (ab n) 0 (au (ai x) (ab n) 0)) (aL (ai x) (ab n) 0 (au (ai x) (ab n) 0)))=true->false=true)/\((!cX (aL
  (ai x) (ab n) 0 (au (ai x) (ab n) 0)) (aL (ai x) (ab n) 0 (au (ai x) (ab n) 0)))=false->true=true/\oK (ai y) (aL (ai x) (ab n) 0 (au (ai
  x) (ab n) 0)) (aO (ai x) (ab n) 0 (au (ai x) (ab n) 0))/\true=true/\true=true/\true=true/\(decide (aO (ai y) (aL (ai x) (ab n) 0 (au (ai x)
  (ab n) 0)) (aO (ai x) (ab n) 0 (au (ai x) (ab n) 0)) (au (ai y) (aL (ai x) (ab n) 0 (au (ai x) (ab n) 0)) (aO (ai x) (ab n) 0 (au (ai x)
  (ab n) 0)))=aO (ai y) (aL (ai x) (ab n) 0 (au (ai x) (ab n) 0)) (aO (ai x) (ab n) 0 (au (ai x) (ab n) 0)) (au (ai y) (aL (ai x) (ab n)
  0 (au (ai x) (ab n) 0)) (aO (ai x) (ab n) 0 (au (ai x) (ab n) 0))))=true->ia (aL (ai y) (aL (ai x) (ab n) 0 (au (ai x) (ab n) 0)) (aO
  (ai x) (ab n) 0 (au (ai x) (ab n) 0)) (au (ai y) (aL (ai x) (ab n) 0 (au (ai x) (ab n) 0)) (aO (ai x) (ab n) 0 (au (ai x) (ab n) 0))))/\
  ia (aL (ai y) (aL (ai x) (ab n) 0 (au (ai x) (ab n) 0)) (aO (ai x) (ab n) 0 (au (ai x) (ab n) 0)) (au (ai y) (aL (ai x) (ab n) 0 (au
  (ai x) (ab n) 0)) (aO (ai x) (ab n) 0 (au (ai x) (ab n) 0)))))/\(decide (aO (ai y) (aL (ai x) (ab n) 0 (au (ai x) (ab n) 0)) (aO (ai x)
  (ab n) 0 (au (ai x) (ab n) 0)) (au (ai y) (aL (ai x) (ab n) 0 (au (ai x) (ab n) 0)) (aO (ai x) (ab n) 0 (au (ai x) (ab n) 0)))=aO (ai
  y) (aL (ai x) (ab n) 0 (au (ai x) (ab n) 0)) (aO (ai x) (ab n) 0 (au (ai x) (ab n) 0)) (au (ai y) (aL (ai x) (ab n) 0 (au (ai x) (ab n)
  0)) (aO (ai x) (ab n) 0 (au (ai x) (ab n) 0))))&&cX (aL (ai y) (aL (ai x) (ab n) 0 (au (ai x) (ab n) 0)) (aO (ai x) (ab n) 0 (au (ai x)
  (ab n) 0)) (au (ai y) (aL (ai x) (ab n) 0 (au (ai x) (ab n) 0)) (aO (ai x) (ab n) 0 (au (ai x) (ab n) 0)))) (aL (ai y) (aL (ai x) (ab n)
  0 (au (ai x) (ab n) 0)) (aO (ai x) (ab n) 0 (au (ai x) (ab n) 0)) (au (ai y) (aL (ai x) (ab n) 0 (au (ai x) (ab n) 0)) (aO (ai x) (ab n)
  0 (au (ai x) (ab n) 0))))&&true)=true)))))))):=by
 have hqx:nG (ai x):=⟨x,rfl,hx⟩;have hqy:nG (ai y):=⟨y,rfl,hy⟩;have hsum:aP IntKind.i64 (bU (an x)+bU (an y)):=by unfold bU;simp only[aP,cj];omega
 have bok:fy n=true->aw (ab n)/\aP IntKind.i64 (n-1):=fun h1=>by
  refine⟨L8 h1,?_⟩;unfold fy at h1;simp only[VK,VL]at h1;simp only[aP,cj];omega
 have hz:gF 0:=by unfold gF;omega
 refine⟨rfl,rfl,fun hn=>⟨hsum,fun _=>hqx,fun _=>hqy,fun _=>rfl,fun h=>by simp at h⟩,fun hn=>⟨fun h4=>⟨hsum,fun _=>hqx,fun _=>hqy,fun _=>rfl,fun h=>by simp at h⟩,fun h4=>?_⟩⟩
 obtain⟨ho,hin⟩:=bok hn;refine⟨rfl,rfl,hin,rfl,rfl,rfl,hsum,fun _=>hqx,fun _=>hqy,fun _=>rfl,fun hf=>?_⟩
 simp only[Bool.or_eq_false_iff,decide_eq_false_iff_not]at hf;obtain⟨⟨⟨f1,f2⟩,f3⟩,_⟩:=hf;have f1:¬40<(an x:Int)+(an y:Int):=f1;have q1:oK (ai x) (ab n) 0:=⟨ho,hz,x,rfl,hx,by omega⟩
 obtain⟨k1,k2⟩:=vx (l:=ai x) ho hz (au (ai x) (ab n) 0).toNat;have k1:aw (aL (ai x) (ab n) 0 (au (ai x) (ab n) 0)):=k1;have k2:gF (aO (ai x) (ab n) 0 (au (ai x) (ab n) 0)):=k2;generalize aL (ai x) (ab n) 0 (au (ai x) (ab n) 0)=L1 at *
 generalize aO (ai x) (ab n) 0 (au (ai x) (ab n) 0)=N1 at *
 have q2:oK (ai y) L1 N1:=⟨k1,k2,y,rfl,hy,by omega⟩
 obtain⟨j1,_⟩:=vx (l:=ai y) k1 k2 (au (ai y) L1 N1).toNat;have j1:aw (aL (ai y) L1 N1 (au (ai y) L1 N1)):=j1;generalize aL (ai y) L1 N1 (au (ai y) L1 N1)=L2 at *
 generalize aO (ai y) L1 N1 (au (ai y) L1 N1)=N2 at *
 have few:∀{M:List Sx.Obj},aw M->ia M:=fun h=>by have:=iN h;show List.length _<=1000;omega
 have s1:aR L1=false:=by
  have:=iN k1;cases L1 with
  |nil=>simp at this
  |cons _ _=>rfl
 have l1:(an L1).le 1000:=few k1
 refine⟨rfl,q1,rfl,rfl,rfl,l1,fun h=>by rw[s1]at h;simp at h,fun _=>⟨rfl,rfl,rfl,l1,fun h=>by rw[s1]at h;simp at h,fun _=>⟨rfl,rfl,rfl,fun _=>⟨few k1,few k1⟩,fun h=>by rw[ko]at h;simp at h,fun _=>⟨rfl,q2,rfl,rfl,rfl,l1,fun h=>by rw[s1]at h;simp at h,fun _=>⟨⟨few k1,few k1⟩,fun h=>by rw[ko]at h;simp at h,fun _=>⟨rfl,q2,rfl,rfl,rfl,fun _=>⟨few j1,few j1⟩,by rw[ko];simp⟩⟩⟩⟩⟩⟩
theorem LX (n:Int) (x y:List k9) (hx:pA x) (hy:pA y) (hlx:an x<=140737488355328) (hly:an y<=140737488355328):ak Tryz.prog 8 [.it .i64 n,.sa 0,.sa 1] [.ro (.arr none 11 (ai x)),.ro (.arr none 11 (ai y))] (nE (.bo true)) (fun _ _=>False):=
 bR (inl:=(fun f=>f==32||f==27||f==16||f==21||f==12||f==29)) (ann:=aV) (ae KV (ae P9 (ae bd (ae He ay)))) (aF Jv (aF cx (aF vp (aF Mp aB)))) (Ou n x y hx hy hlx hly) (by kernel_rfl)
end Go.Proofs.YtlblcfaclmpekaaGreat
