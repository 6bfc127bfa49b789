import Derived.Test.YtmfbohanboiklaaCtTe
import Derived.Test.YtmfbohanboiklaaSpHe
set_option linter.unusedSimpArgs false
set_option linter.unusedVariables false
namespace Go.Proofs.Ytmfbohanboiklaa
open Go.Sx
set_option maxRecDepth 100000
theorem Ha:bW Try.prog 4 IQ:=o7 (bj vi dv) (fun _=>rfl) fun a _ _=>zr a.1
theorem AE (x:List Int) (e:Sx.Key) (hx:∀i,0<=au x i 0/\au x i 0<=255):
 ((decide (aK (aa x)<1)||decide (10<aK (aa x)))=true->true=true)/\((decide (aK (aa x)<1)||decide (10<aK (aa x)))=false->(∃g,iM x g/\0=g/\x=x/\e=e/\ []=
   eR x e g)/\∀(g:Int),iM x g->(decide (g<aK (aa x))=true->aP IntKind.i64 (g+1)/\(sX (aK (aa x))/\aP IntKind.i64 ((g+1).tmod (aK (aa x))))/\(0<=g/\g< ↑(aa x))
   /\g.toNat<aa x/\(sX 8/\aP IntKind.u8 ((au x g.toNat 0).tmod 8))/\aP IntKind.i64 ((au x g.toNat 0).tmod 8)/\(0<=g/\g< ↑(aa x))/\g.toNat<aa x/\(sX 9/\aP IntKind.u8 ((au
   x g.toNat 0).tmod 9))/\(decide ((au x g.toNat 0).tmod 9=8)=true->aP IntKind.i64 (g+1)/\(sX (aK (aa x))/\aP IntKind.i64 ((g+1).tmod (aK (aa x))))/\(0<=g/\g< ↑16)/\aP
   IntKind.i64 (aK (aa x)-1)/\(decide (g=aK (aa x)-1)=true->eh (aa (eR x e g)) 856/\aP IntKind.i64 (g+1)/\∃g',iM x g'/\(aK (aa x)-g').toNat<(aK (aa x)-
   g).toNat/\g+1=g'/\x=x/\e=e/\ba (eR x e g) (Obj.mk 1 1 free.calls ((free.slots.put g.toNat (Key.mk 5 ((g+1).tmod (aK (aa x))) 1 void.call void.rights void.value)).put 15 e)
   free.bytes)=eR x e g')/\(decide (g=aK (aa x)-1)=false->eh (aa (eR x e g)) 856/\aP IntKind.i64 (g+1)/\∃g',iM x g'/\(aK (aa x)-g').toNat<(aK (aa x)-
   g).toNat/\g+1=g'/\x=x/\e=e/\ba (eR x e g) (Obj.mk 1 1 free.calls (free.slots.put g.toNat (Key.mk 5 ((g+1).tmod (aK (aa x))) 1 void.call void.rights void.value)) free.bytes)=
   eR x e g'))/\(decide ((au x g.toNat 0).tmod 9=8)=false->(0<=g/\g< ↑16)/\aP IntKind.i64 (aK (aa x)-1)/\(decide (g=aK (aa x)-1)=true->eh (aa (eR x e g)) 856/\aP
   IntKind.i64 (g+1)/\∃g',iM x g'/\(aK (aa x)-g').toNat<(aK (aa x)-g).toNat/\g+1=g'/\x=x/\e=e/\ba (eR x e g) (Obj.mk 1 1 free.calls ((free.slots.put g.toNat (Key.mk
   2 ((g+1).tmod (aK (aa x))) 1 void.call ((au x g.toNat 0).tmod 8) void.value)).put 15 e) free.bytes)=eR x e g')/\(decide (g=aK (aa x)-1)=false->eh (aa (eR x e g)) 856/\
   aP IntKind.i64 (g+1)/\∃g',iM x g'/\(aK (aa x)-g').toNat<(aK (aa x)-g).toNat/\g+1=g'/\x=x/\e=e/\ba (eR x e g) (Obj.mk 1 1 free.calls (free.slots.put g.toNat
   (Key.mk 2 ((g+1).tmod (aK (aa x))) 1 void.call ((au x g.toNat 0).tmod 8) void.value)) free.bytes)=eR x e g')))/\(decide (g<aK (aa x))=false->true=true)):=by
 have e1:aK (aa x)=(x.length:Int):=rfl;have e2:((aa x:Nat):Int)=(x.length:Int):=rfl;rw[e1];refine⟨fun _=>rfl,fun h=>?_⟩
 simp only[Bool.or_eq_false_iff,decide_eq_false_iff_not]at h;obtain⟨l1,l2⟩:=h;refine⟨⟨0,⟨by omega,Int.natCast_nonneg _,by show(x.length:Int)<=10;omega⟩,rfl,rfl,rfl,rfl⟩,fun g hg=>⟨fun hlt=>?_,fun _=>rfl⟩⟩
 have hlt:=Nc hlt;obtain⟨g0,g1,g2⟩:=hg;have hu:=hx g.toNat;have hi:aP IntKind.i64 (g+1):=by simp only[aP,bC];omega
 have hm0:=Int.tmod_nonneg (x.length:Int) (show 0<=g+1 by omega)
 have hm1:=Int.tmod_lt_of_pos (g+1) (show 0<(x.length:Int) by omega)
 have hm:aP IntKind.i64 ((g+1).tmod (x.length:Int)):=by simp only[aP,bC];omega
 have h80:=Int.tmod_nonneg 8 hu.1;have h81:=Int.tmod_lt_of_pos (au x g.toNat 0) (show(0:Int)<8 by omega)
 have h90:=Int.tmod_nonneg 9 hu.1;have h91:=Int.tmod_lt_of_pos (au x g.toNat 0) (show(0:Int)<9 by omega)
 have hc:0<=g/\g<((aa x:Nat):Int):=⟨g0,hlt⟩;have hl:g.toNat<aa x:=by show g.toNat<x.length;omega
 have hinv:iM x (g+1):=⟨by omega,by show g+1<=(x.length:Int);omega,g2⟩
 have hfit:eh (aa (eR x e g)) 856:=by
  unfold eh eR aa;simp only[maxLen,List.length_map,List.length_range];omega
 have hne:sX (x.length:Int):=by unfold sX;omega
 have hs:aP IntKind.i64 ((x.length:Int)-1):=by simp only[aP,bC];omega
 have hnx:eR x e (g+1)=ba (eR x e g) (C2 x e g):=by
  unfold eR ba;rw[show(g+1).toNat=g.toNat+1 by omega,List.range_succ,List.map_append,List.map_singleton,show((g.toNat:Nat):Int)=g by omega]
 have key:∀(s:bZ),uh x e g=s->ba (eR x e g) (Obj.mk 1 1 0 s gF)=eR x e (g+1):=fun s hs=>by
  rw[hnx];unfold C2;rw[hs]
 refine⟨hi,⟨hne,hm⟩,hc,hl,⟨by unfold sX;omega,by simp only[aP,bC];omega⟩,by simp only[aP,bC];omega,hc,hl,⟨by unfold sX;omega,by simp only[aP,bC];omega⟩,fun h9=>⟨hi,⟨hne,hm⟩,⟨g0,by omega⟩,hs,fun hz=>⟨hfit,hi,g+1,hinv,by omega,rfl,rfl,rfl,?_⟩,fun hz=>⟨hfit,hi,g+1,hinv,by omega,rfl,rfl,rfl,?_⟩⟩,fun h9=>⟨⟨g0,by omega⟩,hs,fun hz=>⟨hfit,hi,g+1,hinv,by omega,rfl,rfl,rfl,?_⟩,fun hz=>⟨hfit,hi,g+1,hinv,by omega,rfl,rfl,rfl,?_⟩⟩⟩
 ·refine key _ ?_;unfold uh uj;rw[e2,hz,h9];rfl
 ·refine key _ ?_;unfold uh uj;rw[e2,hz,h9];rfl
 ·refine key _ ?_;unfold uh uj;rw[e2,hz,h9];rfl
 ·refine key _ ?_;unfold uh uj;rw[e2,hz,h9];rfl
theorem A8 (x:List Int) (e:Sx.Key) (hx:∀i,0<=au x i 0/\au x i 0<=255):ai Try.prog 5 [.sa 0,.key e] [.ro (.arr none 1 (.it .u8 x))] (nz (.bo true)) (fun _ _=>False):=
 cK (inl:=bw) (ann:=(kg [(5,5,Md [0,3] (fun g=> [(6,.it .i64 g)]) 5 tO 163 (fun g=> .ob (eR x e g)) (iM x) (aK (aa x)))])) (an ru (an Ha az)) cM (AE x e hx) (by kernel_rfl)
end Go.Proofs.Ytmfbohanboiklaa
