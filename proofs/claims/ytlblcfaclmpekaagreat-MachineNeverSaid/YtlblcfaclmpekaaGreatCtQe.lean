import Derived.Test.YtlblcfaclmpekaaGreatCtQd
set_option linter.unusedSimpArgs false
set_option linter.unusedVariables false
namespace Go.Proofs.YtlblcfaclmpekaaGreat
open Go.Sx
set_option maxRecDepth 100000
theorem PW:
 true=true/\true=true/\∀(r0:Loop),(∃g,jr [] g/\ah []=ah []/\0=g/\Value.pointer none=Value.pointer none/\r0=r0/\ []=eH [] g)/\∀(g:Int),jr [] g->
  (decide (g<ah [])=true->False)/\(decide (g<ah [])=false->true=true/\∀(nid:Nat),some (V.sa nid)=some (V.sa nid)/\some [aA.arr (some tI) 1 (TL.it IntKind.i64 (eH [] g))]
  =some [aA.arr (some tI) 1 (TL.it IntKind.i64 (eH [] (bH (ak ([]:List Sx.Obj)))))]):=by
 simp only[sV,qi,pR,nD,decide_true,Bool.and_true,Bool.not_true,Bool.or_false,Bool.not_false,Bool.false_eq_true,Bool.true_eq_false,false_implies,implies_true,true_implies,true_and,and_true,and_self];refine fun _=>⟨⟨0,⟨by omega,by unfold ak;simp⟩,rfl,rfl⟩,fun g hg=>⟨fun h=>?_,fun h _=>?_⟩⟩
 ·have h1:g<ah []:=Xs h;have:=hg.1;unfold ah ak at h1;simp at h1;omega
 ·have:g=bH (ak ([]:List Obj)):=by have:=hg.1;have:=hg.2;unfold bH ak at *;simp at *;omega
  rw[this];rfl
theorem MO:aj Tryz.prog 57 [gJ] [] (GO true gJ (fun n=> .sa n) (.arr (some tI) 1 (.it .i64 (eH [] (bH (ak ([]:List Sx.Obj))))))) (fun _ _=>False):=
 bK (inl:=(fun f=>f==88||f==24)) (ann:=(kg [(4000+44,1,Vt [0,1,5] (fun g=> [(6,.it .i64 g)]) 0 103 tI 1 (fun g=> .it .i64 (eH [] g)) (jr []) (bH (ak ([]:List Sx.Obj))))])) (ab aY an) az (PW) (by kernel_rfl)
theorem Se (L:List Sx.Obj) (hl:jn L):
 true=true/\true=true/\∀(r0:Loop),(∃g,jr L g/\ah L=ah L/\0=g/\L=L/\r0=r0/\ []=eH L g)/\∀(g:Int),jr L g->(decide (g<ah L)=true->(0<=g/\g<
  ↑(ak L))/\g.toNat<ak L/\g.toNat<ak L/\r0=r0/\r0=r0/\true=true/\((!decide ((ai L g.toNat free).kind=1)|| !decide (((ai L g.toNat free).slots.at 2).kind=1)||decide
  (((ai L g.toNat free).slots.at 2).value<0)||decide (2<((ai L g.toNat free).slots.at 2).value))=true->r0=r0/\aL IntKind.i64 (g+1)/\∃g',jr L g'/\(bH (ak L)-g').toNat<
  (bH (ak L)-g).toNat/\ah L=ah L/\g+1=g'/\L=L/\r0=r0/\eH L g=eH L g')/\((!decide ((ai L g.toNat free).kind=1)|| !decide (((ai L g.toNat free).slots.at
  2).kind=1)||decide (((ai L g.toNat free).slots.at 2).value<0)||decide (2<((ai L g.toNat free).slots.at 2).value))=false->(decide (((ai L g.toNat free).slots.at 2).value=1)=true->
  qN (ak (eH L g)) 8/\r0=r0/\aL IntKind.i64 (g+1)/\∃g',jr L g'/\(bH (ak L)-g').toNat<(bH (ak L)-g).toNat/\ah L=ah L/\g+1=g'/\L=L/\r0=r0/\gD
  (eH L g) g=eH L g')/\(decide (((ai L g.toNat free).slots.at 2).value=1)=false->r0=r0/\aL IntKind.i64 (g+1)/\∃g',jr L g'/\(bH (ak L)-g').toNat<(bH (ak L)-
  g).toNat/\ah L=ah L/\g+1=g'/\L=L/\r0=r0/\eH L g=eH L g')))/\(decide (g<ah L)=false->true=true/\∀(nid:Nat),some (V.sa nid)=some (V.sa nid)/\some
  [aA.arr (some tI) 1 (TL.it IntKind.i64 (eH L g))]=some [aA.arr (some tI) 1 (TL.it IntKind.i64 (eH L (bH (ak L))))]):=by
 simp only[Ae];simp only[sV,qi,pR,nD,decide_true,Bool.and_true,Bool.not_true,Bool.or_false,Bool.not_false,Bool.false_eq_true,Bool.true_eq_false,false_implies,implies_true,true_implies,true_and,and_true,and_self];refine fun _=>⟨⟨0,⟨by omega,by omega⟩,rfl,(GR L).symm⟩,fun g hg=>⟨fun h=>?_,fun h=>?_⟩⟩
 ·have h1:g<(L.length:Int):=Xs h;obtain⟨s1,s2,s3⟩:=Kh hl hg h1;have e:=Hc L hg.1;have hlL:ak L=L.length:=rfl;have hg0:=hg.1;have hget:au L g=ai L g.toNat free:=fu hg.1 h1;refine⟨⟨by omega,by omega⟩,by omega,by omega,fun h2=>⟨s1,g+1,s2,s3,rfl,?_⟩,fun h2=>⟨fun h3=>⟨H7 hl h1,s1,g+1,s2,s3,rfl,?_⟩,fun h3=>⟨s1,g+1,s2,s3,rfl,?_⟩⟩⟩
  ·have hb:di L g=false:=by unfold di;rw[hget];simpa using h2
   rw[e,Xu (by rw[(xp hb).1];omega)]
  ·have hb:di L g=true:=by unfold di;rw[hget];simpa using h2
   rw[e,Xv (by rw[(lz hb).1,hget];exact Xs h3)]
  ·have hb:di L g=true:=by unfold di;rw[hget];simpa using h2
   rw[e,Xu (by rw[(lz hb).1,hget];exact Xr h3)]
 ·have h1:¬g<(L.length:Int):=Xr h;have:g=bH (ak L):=by have:=hg.2;unfold bH ak at *;omega
  rw[this];exact fun _=>rfl
theorem S0 (L:List Sx.Obj) (hl:jn L):aj Tryz.prog 57 [.lp 0 0] [.ro (.store tS eS L)] (GO true gJ (fun n=> .sa n) (.arr (some tI) 1 (.it .i64 (eH L (bH (ak L)))))) (fun _ _=>False):=
 bK (inl:=(fun f=>f==88||f==24)) (ann:=(kg [(4000+44,1,Vt [0,1,5] (fun g=> [(6,.it .i64 g)]) 1 103 tI 1 (fun g=> .it .i64 (eH L g)) (jr L) (bH (ak L)))])) (ab aY an) az (Se L hl) (by kernel_rfl)
theorem Sv:oU Tryz.prog 57 Ue:=
 IQ (aM qQ dM) (fun _=>rfl) (fun _=>by simp) fun a hq hok=>by
  obtain⟨S,_⟩:=a;cases S with
  |none=>exact MO
  |some L=>exact S0 L hq
end Go.Proofs.YtlblcfaclmpekaaGreat
