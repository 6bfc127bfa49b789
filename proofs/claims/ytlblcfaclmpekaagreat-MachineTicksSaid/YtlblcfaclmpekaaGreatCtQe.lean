import Derived.Test.YtlblcfaclmpekaaGreatCtQd
set_option linter.unusedSimpArgs false
set_option linter.unusedVariables false
namespace Go.Proofs.YtlblcfaclmpekaaGreat
open Go.Sx
set_option maxRecDepth 100000
theorem MI:
 true=true/\true=true/\∀(r0:Loop),(∃g,jc [] g/\ah []=ah []/\0=g/\Value.pointer none=Value.pointer none/\r0=r0/\ []=eu [] g)/\∀(g:Int),jc [] g->
  (decide (g<ah [])=true->False)/\(decide (g<ah [])=false->true=true/\∀(nid:Nat),some (V.sa nid)=some (V.sa nid)/\some [aA.arr (some tI) 1 (TL.it IntKind.i64 (eu [] g))]
  =some [aA.arr (some tI) 1 (TL.it IntKind.i64 (eu [] (dJ (ar ([]:List Sx.Obj)))))]):=by
 simp only[r8,pR,r7,pY,decide_true,Bool.and_true,Bool.not_true,Bool.or_false,Bool.not_false,Bool.false_eq_true,Bool.true_eq_false,false_implies,implies_true,true_implies,true_and,and_true,and_self];refine fun _=>⟨⟨0,⟨by omega,by unfold ar;simp⟩,rfl,rfl⟩,fun g hg=>⟨fun h=>?_,fun h _=>?_⟩⟩
 ·have h1:g<ah []:=UX h;have:=hg.1;unfold ah ar at h1;simp at h1;omega
 ·have:g=dJ (ar ([]:List Obj)):=by have:=hg.1;have:=hg.2;unfold dJ ar at *;simp at *;omega
  rw[this];rfl
theorem Mo:aj Tryz.prog 57 [kz] [] (Fw true kz (fun n=> .sa n) (.arr (some tI) 1 (.it .i64 (eu [] (dJ (ar ([]:List Sx.Obj))))))) (fun _ _=>False):=
 bL (inl:=(fun f=>f==88||f==24)) (ann:=(kW [(4000+44,1,Ue [0,1,5] (fun g=> [(6,.it .i64 g)]) 0 103 tI 1 (fun g=> .it .i64 (eu [] g)) (jc []) (dJ (ar ([]:List Sx.Obj))))])) (ab aW aq) ay (MI) (by kernel_rfl)
theorem PE (L:List Sx.Obj) (hl:iV L):
 true=true/\true=true/\∀(r0:Loop),(∃g,jc L g/\ah L=ah L/\0=g/\L=L/\r0=r0/\ []=eu L g)/\∀(g:Int),jc L g->(decide (g<ah L)=true->(0<=g/\g<
  ↑(ar L))/\g.toNat<ar L/\g.toNat<ar L/\r0=r0/\r0=r0/\true=true/\((!decide ((ai L g.toNat free).kind=1)|| !decide (((ai L g.toNat free).slots.at 2).kind=1)||decide
  (((ai L g.toNat free).slots.at 2).value<0)||decide (2<((ai L g.toNat free).slots.at 2).value))=true->r0=r0/\aL IntKind.i64 (g+1)/\∃g',jc L g'/\(dJ (ar L)-g').toNat<
  (dJ (ar L)-g).toNat/\ah L=ah L/\g+1=g'/\L=L/\r0=r0/\eu L g=eu L g')/\((!decide ((ai L g.toNat free).kind=1)|| !decide (((ai L g.toNat free).slots.at
  2).kind=1)||decide (((ai L g.toNat free).slots.at 2).value<0)||decide (2<((ai L g.toNat free).slots.at 2).value))=false->(decide (((ai L g.toNat free).slots.at 2).value=1)=true->
  qz (ar (eu L g)) 8/\r0=r0/\aL IntKind.i64 (g+1)/\∃g',jc L g'/\(dJ (ar L)-g').toNat<(dJ (ar L)-g).toNat/\ah L=ah L/\g+1=g'/\L=L/\r0=r0/\gu
  (eu L g) g=eu L g')/\(decide (((ai L g.toNat free).slots.at 2).value=1)=false->r0=r0/\aL IntKind.i64 (g+1)/\∃g',jc L g'/\(dJ (ar L)-g').toNat<(dJ (ar L)-
  g).toNat/\ah L=ah L/\g+1=g'/\L=L/\r0=r0/\eu L g=eu L g')))/\(decide (g<ah L)=false->true=true/\∀(nid:Nat),some (V.sa nid)=some (V.sa nid)/\some
  [aA.arr (some tI) 1 (TL.it IntKind.i64 (eu L g))]=some [aA.arr (some tI) 1 (TL.it IntKind.i64 (eu L (dJ (ar L))))]):=by
 simp only[zQ];simp only[r8,pR,r7,pY,decide_true,Bool.and_true,Bool.not_true,Bool.or_false,Bool.not_false,Bool.false_eq_true,Bool.true_eq_false,false_implies,implies_true,true_implies,true_and,and_true,and_self];refine fun _=>⟨⟨0,⟨by omega,by omega⟩,rfl,(F2 L).symm⟩,fun g hg=>⟨fun h=>?_,fun h=>?_⟩⟩
 ·have h1:g<(L.length:Int):=UX h;obtain⟨s1,s2,s3⟩:=KF hl hg h1;have e:=FB L hg.1;have hlL:ar L=L.length:=rfl;have hg0:=hg.1;have hget:az L g=ai L g.toNat free:=fG hg.1 h1;refine⟨⟨by omega,by omega⟩,by omega,by omega,fun h2=>⟨s1,g+1,s2,s3,rfl,?_⟩,fun h2=>⟨fun h3=>⟨IE hl h1,s1,g+1,s2,s3,rfl,?_⟩,fun h3=>⟨s1,g+1,s2,s3,rfl,?_⟩⟩⟩
  ·have hb:cR L g=false:=by unfold cR;rw[hget];simpa using h2
   rw[e,UZ (by rw[(ve hb).1];omega)]
  ·have hb:cR L g=true:=by unfold cR;rw[hget];simpa using h2
   rw[e,U0 (by rw[(kS hb).1,hget];exact UX h3)]
  ·have hb:cR L g=true:=by unfold cR;rw[hget];simpa using h2
   rw[e,UZ (by rw[(kS hb).1,hget];exact UW h3)]
 ·have h1:¬g<(L.length:Int):=UW h;have:g=dJ (ar L):=by have:=hg.2;unfold dJ ar at *;omega
  rw[this];exact fun _=>rfl
theorem Qu (L:List Sx.Obj) (hl:iV L):aj Tryz.prog 57 [.lp 0 0] [.ro (.store tS eS L)] (Fw true kz (fun n=> .sa n) (.arr (some tI) 1 (.it .i64 (eu L (dJ (ar L)))))) (fun _ _=>False):=
 bL (inl:=(fun f=>f==88||f==24)) (ann:=(kW [(4000+44,1,Ue [0,1,5] (fun g=> [(6,.it .i64 g)]) 1 103 tI 1 (fun g=> .it .i64 (eu L g)) (jc L) (dJ (ar L)))])) (ab aW aq) ay (PE L hl) (by kernel_rfl)
theorem O1:p5 Tryz.prog 57 RI:=
 QX (aK qs dP) (fun _=>rfl) (fun _=>by simp) fun a hq hok=>by
  obtain⟨S,_⟩:=a;cases S with
  |none=>exact Mo
  |some L=>exact Qu L hq
end Go.Proofs.YtlblcfaclmpekaaGreat
