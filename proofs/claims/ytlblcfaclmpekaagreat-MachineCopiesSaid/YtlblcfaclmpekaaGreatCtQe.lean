import Derived.Test.YtlblcfaclmpekaaGreatCtQd
set_option linter.unusedSimpArgs false
set_option linter.unusedVariables false
namespace Go.Proofs.YtlblcfaclmpekaaGreat
open Go.Sx
set_option maxRecDepth 100000
theorem NZ:
 true=true/\true=true/\∀(r0:Loop),(∃g,jm [] g/\aj []=aj []/\0=g/\Value.pointer none=Value.pointer none/\r0=r0/\ []=eG [] g)/\∀(g:Int),jm [] g->
  (decide (g<aj [])=true->False)/\(decide (g<aj [])=false->true=true/\∀(nid:Nat),some (V.sa nid)=some (V.sa nid)/\some [aC.arr (some tI) 1 (TL.it IntKind.i64 (eG [] g))]
  =some [aC.arr (some tI) 1 (TL.it IntKind.i64 (eG [] (bU (an ([]:List Sx.Obj)))))]):=by
 simp only[sE,pW,sR,ko,decide_true,Bool.and_true,Bool.not_true,Bool.or_false,Bool.not_false,Bool.false_eq_true,Bool.true_eq_false,false_implies,implies_true,true_implies,true_and,and_true,and_self];refine fun _=>⟨⟨0,⟨by omega,by unfold an;simp⟩,rfl,rfl⟩,fun g hg=>⟨fun h=>?_,fun h _=>?_⟩⟩
 ·have h1:g<aj []:=VO h;have:=hg.1;unfold aj an at h1;simp at h1;omega
 ·have:g=bU (an ([]:List Obj)):=by have:=hg.1;have:=hg.2;unfold bU an at *;simp at *;omega
  rw[this];rfl
theorem NF:ak Tryz.prog 57 [gT] [] (FP true gT (fun n=> .sa n) (.arr (some tI) 1 (.it .i64 (eG [] (bU (an ([]:List Sx.Obj))))))) (fun _ _=>False):=
 bR (inl:=(fun f=>f==88||f==24)) (ann:=(lr [(4000+44,1,T2 [0,1,5] (fun g=> [(6,.it .i64 g)]) 0 103 tI 1 (fun g=> .it .i64 (eG [] g)) (jm []) (bU (an ([]:List Sx.Obj))))])) (ae bd ay) aB (NZ) (by kernel_rfl)
theorem PU (L:List Sx.Obj) (hl:ja L):
 true=true/\true=true/\∀(r0:Loop),(∃g,jm L g/\aj L=aj L/\0=g/\L=L/\r0=r0/\ []=eG L g)/\∀(g:Int),jm L g->(decide (g<aj L)=true->(0<=g/\g<
  ↑(an L))/\g.toNat<an L/\g.toNat<an L/\r0=r0/\r0=r0/\true=true/\((!decide ((aq L g.toNat free).kind=1)|| !decide (((aq L g.toNat free).slots.at 2).kind=1)||decide
  (((aq L g.toNat free).slots.at 2).value<0)||decide (2<((aq L g.toNat free).slots.at 2).value))=true->r0=r0/\aP IntKind.i64 (g+1)/\∃g',jm L g'/\(bU (an L)-g').toNat<
  (bU (an L)-g).toNat/\aj L=aj L/\g+1=g'/\L=L/\r0=r0/\eG L g=eG L g')/\((!decide ((aq L g.toNat free).kind=1)|| !decide (((aq L g.toNat free).slots.at
  2).kind=1)||decide (((aq L g.toNat free).slots.at 2).value<0)||decide (2<((aq L g.toNat free).slots.at 2).value))=false->(decide (((aq L g.toNat free).slots.at 2).value=1)=true->
  oW (an (eG L g)) 8/\r0=r0/\aP IntKind.i64 (g+1)/\∃g',jm L g'/\(bU (an L)-g').toNat<(bU (an L)-g).toNat/\aj L=aj L/\g+1=g'/\L=L/\r0=r0/\gu
  (eG L g) g=eG L g')/\(decide (((aq L g.toNat free).slots.at 2).value=1)=false->r0=r0/\aP IntKind.i64 (g+1)/\∃g',jm L g'/\(bU (an L)-g').toNat<(bU (an L)-
  g).toNat/\aj L=aj L/\g+1=g'/\L=L/\r0=r0/\eG L g=eG L g')))/\(decide (g<aj L)=false->true=true/\∀(nid:Nat),some (V.sa nid)=some (V.sa nid)/\some
  [aC.arr (some tI) 1 (TL.it IntKind.i64 (eG L g))]=some [aC.arr (some tI) 1 (TL.it IntKind.i64 (eG L (bU (an L))))]):=by
 simp only[zP];simp only[sE,pW,sR,ko,decide_true,Bool.and_true,Bool.not_true,Bool.or_false,Bool.not_false,Bool.false_eq_true,Bool.true_eq_false,false_implies,implies_true,true_implies,true_and,and_true,and_self];refine fun _=>⟨⟨0,⟨by omega,by omega⟩,rfl,(Fh L).symm⟩,fun g hg=>⟨fun h=>?_,fun h=>?_⟩⟩
 ·have h1:g<(L.length:Int):=VO h;obtain⟨s1,s2,s3⟩:=IJ hl hg h1;have e:=FA L hg.1;have hlL:an L=L.length:=rfl;have hg0:=hg.1;have hget:aD L g=aq L g.toNat free:=fK hg.1 h1;refine⟨⟨by omega,by omega⟩,by omega,by omega,fun h2=>⟨s1,g+1,s2,s3,rfl,?_⟩,fun h2=>⟨fun h3=>⟨HK hl h1,s1,g+1,s2,s3,rfl,?_⟩,fun h3=>⟨s1,g+1,s2,s3,rfl,?_⟩⟩⟩
  ·have hb:de L g=false:=by unfold de;rw[hget];simpa using h2
   rw[e,VQ (by rw[(wg hb).1];omega)]
  ·have hb:de L g=true:=by unfold de;rw[hget];simpa using h2
   rw[e,VR (by rw[(lg hb).1,hget];exact VO h3)]
  ·have hb:de L g=true:=by unfold de;rw[hget];simpa using h2
   rw[e,VQ (by rw[(lg hb).1,hget];exact VN h3)]
 ·have h1:¬g<(L.length:Int):=VN h;have:g=bU (an L):=by have:=hg.2;unfold bU an at *;omega
  rw[this];exact fun _=>rfl
theorem Qm (L:List Sx.Obj) (hl:ja L):ak Tryz.prog 57 [.lp 0 0] [.ro (.store tS eS L)] (FP true gT (fun n=> .sa n) (.arr (some tI) 1 (.it .i64 (eG L (bU (an L)))))) (fun _ _=>False):=
 bR (inl:=(fun f=>f==88||f==24)) (ann:=(lr [(4000+44,1,T2 [0,1,5] (fun g=> [(6,.it .i64 g)]) 1 103 tI 1 (fun g=> .it .i64 (eG L g)) (jm L) (bU (an L)))])) (ae bd ay) aB (PU L hl) (by kernel_rfl)
theorem Qt:oM Tryz.prog 57 S7:=
 QL (aQ qL dU) (fun _=>rfl) (fun _=>by simp) fun a hq hok=>by
  obtain⟨S,_⟩:=a;cases S with
  |none=>exact NF
  |some L=>exact Qm L hq
end Go.Proofs.YtlblcfaclmpekaaGreat
