import Derived.Test.YtlblcfaclmpekaaGreatCtQd
set_option linter.unusedSimpArgs false
set_option linter.unusedVariables false
namespace Go.Proofs.YtlblcfaclmpekaaGreat
open Go.Sx
set_option maxRecDepth 100000
theorem Nq:
 true=true/\true=true/\∀(r0:Loop),(∃g,jk [] g/\ah []=ah []/\0=g/\Value.pointer none=Value.pointer none/\r0=r0/\ []=eI [] g)/\∀(g:Int),jk [] g->
  (decide (g<ah [])=true->False)/\(decide (g<ah [])=false->true=true/\∀(nid:Nat),some (V.sa nid)=some (V.sa nid)/\some [aB.arr (some tI) 1 (TL.it IntKind.i64 (eI [] g))]
  =some [aB.arr (some tI) 1 (TL.it IntKind.i64 (eI [] (b6 (aq ([]:List Sx.Obj)))))]):=by
 simp only[oT,ni,rQ,lD,decide_true,Bool.and_true,Bool.not_true,Bool.or_false,Bool.not_false,Bool.false_eq_true,Bool.true_eq_false,false_implies,implies_true,true_implies,true_and,and_true,and_self];refine fun _=>⟨⟨0,⟨by omega,by unfold aq;simp⟩,rfl,rfl⟩,fun g hg=>⟨fun h=>?_,fun h _=>?_⟩⟩
 ·have h1:g<ah []:=VK h;have:=hg.1;unfold ah aq at h1;simp at h1;omega
 ·have:g=b6 (aq ([]:List Obj)):=by have:=hg.1;have:=hg.2;unfold b6 aq at *;simp at *;omega
  rw[this];rfl
theorem L4:aj Tryz.prog 57 [gX] [] (FL true gX (fun n=> .sa n) (.arr (some tI) 1 (.it .i64 (eI [] (b6 (aq ([]:List Sx.Obj))))))) (fun _ _=>False):=
 bP (inl:=(fun f=>f==88||f==24)) (ann:=(kV [(4000+44,1,Ty [0,1,5] (fun g=> [(6,.it .i64 g)]) 0 103 tI 1 (fun g=> .it .i64 (eI [] g)) (jk []) (b6 (aq ([]:List Sx.Obj))))])) (ab ba au) aA (Nq) (by kernel_rfl)
theorem Rr (L:List Sx.Obj) (hl:jb L):
 true=true/\true=true/\∀(r0:Loop),(∃g,jk L g/\ah L=ah L/\0=g/\L=L/\r0=r0/\ []=eI L g)/\∀(g:Int),jk L g->(decide (g<ah L)=true->(0<=g/\g<
  ↑(aq L))/\g.toNat<aq L/\g.toNat<aq L/\r0=r0/\r0=r0/\true=true/\((!decide ((ak L g.toNat free).kind=1)|| !decide (((ak L g.toNat free).slots.at 2).kind=1)||decide
  (((ak L g.toNat free).slots.at 2).value<0)||decide (2<((ak L g.toNat free).slots.at 2).value))=true->r0=r0/\aM IntKind.i64 (g+1)/\∃g',jk L g'/\(b6 (aq L)-g').toNat<
  (b6 (aq L)-g).toNat/\ah L=ah L/\g+1=g'/\L=L/\r0=r0/\eI L g=eI L g')/\((!decide ((ak L g.toNat free).kind=1)|| !decide (((ak L g.toNat free).slots.at
  2).kind=1)||decide (((ak L g.toNat free).slots.at 2).value<0)||decide (2<((ak L g.toNat free).slots.at 2).value))=false->(decide (((ak L g.toNat free).slots.at 2).value=1)=true->
  oR (aq (eI L g)) 8/\r0=r0/\aM IntKind.i64 (g+1)/\∃g',jk L g'/\(b6 (aq L)-g').toNat<(b6 (aq L)-g).toNat/\ah L=ah L/\g+1=g'/\L=L/\r0=r0/\gx
  (eI L g) g=eI L g')/\(decide (((ak L g.toNat free).slots.at 2).value=1)=false->r0=r0/\aM IntKind.i64 (g+1)/\∃g',jk L g'/\(b6 (aq L)-g').toNat<(b6 (aq L)-
  g).toNat/\ah L=ah L/\g+1=g'/\L=L/\r0=r0/\eI L g=eI L g')))/\(decide (g<ah L)=false->true=true/\∀(nid:Nat),some (V.sa nid)=some (V.sa nid)/\some
  [aB.arr (some tI) 1 (TL.it IntKind.i64 (eI L g))]=some [aB.arr (some tI) 1 (TL.it IntKind.i64 (eI L (b6 (aq L))))]):=by
 simp only[An];simp only[oT,ni,rQ,lD,decide_true,Bool.and_true,Bool.not_true,Bool.or_false,Bool.not_false,Bool.false_eq_true,Bool.true_eq_false,false_implies,implies_true,true_implies,true_and,and_true,and_self];refine fun _=>⟨⟨0,⟨by omega,by omega⟩,rfl,(Gb L).symm⟩,fun g hg=>⟨fun h=>?_,fun h=>?_⟩⟩
 ·have h1:g<(L.length:Int):=VK h;obtain⟨s1,s2,s3⟩:=Ih hl hg h1;have e:=Fp L hg.1;have hlL:aq L=L.length:=rfl;have hg0:=hg.1;have hget:aC L g=ak L g.toNat free:=fO hg.1 h1;refine⟨⟨by omega,by omega⟩,by omega,by omega,fun h2=>⟨s1,g+1,s2,s3,rfl,?_⟩,fun h2=>⟨fun h3=>⟨Kx hl h1,s1,g+1,s2,s3,rfl,?_⟩,fun h3=>⟨s1,g+1,s2,s3,rfl,?_⟩⟩⟩
  ·have hb:dc L g=false:=by unfold dc;rw[hget];simpa using h2
   rw[e,VM (by rw[(v8 hb).1];omega)]
  ·have hb:dc L g=true:=by unfold dc;rw[hget];simpa using h2
   rw[e,VN (by rw[(lz hb).1,hget];exact VK h3)]
  ·have hb:dc L g=true:=by unfold dc;rw[hget];simpa using h2
   rw[e,VM (by rw[(lz hb).1,hget];exact VJ h3)]
 ·have h1:¬g<(L.length:Int):=VJ h;have:g=b6 (aq L):=by have:=hg.2;unfold b6 aq at *;omega
  rw[this];exact fun _=>rfl
theorem Rc (L:List Sx.Obj) (hl:jb L):aj Tryz.prog 57 [.lp 0 0] [.ro (.store tS eS L)] (FL true gX (fun n=> .sa n) (.arr (some tI) 1 (.it .i64 (eI L (b6 (aq L)))))) (fun _ _=>False):=
 bP (inl:=(fun f=>f==88||f==24)) (ann:=(kV [(4000+44,1,Ty [0,1,5] (fun g=> [(6,.it .i64 g)]) 1 103 tI 1 (fun g=> .it .i64 (eI L g)) (jk L) (b6 (aq L)))])) (ab ba au) aA (Rr L hl) (by kernel_rfl)
theorem PI:oP Tryz.prog 57 SH:=
 Pz (aN qK dX) (fun _=>rfl) (fun _=>by simp) fun a hq hok=>by
  obtain⟨S,_⟩:=a;cases S with
  |none=>exact L4
  |some L=>exact Rc L hq
end Go.Proofs.YtlblcfaclmpekaaGreat
