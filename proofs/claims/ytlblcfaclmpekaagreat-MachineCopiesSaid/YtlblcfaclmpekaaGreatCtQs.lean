import Derived.Test.YtlblcfaclmpekaaGreatCQ
import Derived.Test.YtlblcfaclmpekaaGreatCN
namespace Go.Proofs.YtlblcfaclmpekaaGreat
open Go.Sx
theorem Gc:
 true=cX [] []:=by
 rfl
theorem GC:ak Tryz.prog 23 [gT,gT] [] (nE (.bo (cX [] []))) (fun _ _=>False):=bx (inl:=ca) (ann:=aV) (ae kN ay) Gc (by kernel_rfl)
theorem Gn (L:List Sx.Obj):
 aR L=cX [] L:=by
 unfold cX;cases hb:aR L with
 |true=>rw[jB.1 hb];rfl
 |false=>symm;rw[decide_eq_false_iff_not];rintro rfl;simp[jD]at hb
theorem Fi (L:List Sx.Obj):ak Tryz.prog 23 [gT,.lp 0 0] [.ro (.blk tS (.ag [.sa 1])),.ro (.obs eS 2 L),.gen 1] (nE (.bo (cX [] L))) (fun _ _=>False):=bx (inl:=ca) (ann:=aV) (ae kN ay) (Gn L) (by kernel_rfl)
theorem GB (L:List Sx.Obj):
 ((aR L||true)=true->(aR L||false)=cX L [])/\((aR L||true)=false->False):=by
 refine⟨fun _=>?_,fun h=>by simp at h⟩
 rw[Bool.or_false];unfold cX;cases hb:aR L with
 |true=>rw[jB.1 hb];rfl
 |false=>symm;rw[decide_eq_false_iff_not];rintro rfl;simp[jD]at hb
theorem FM (L:List Sx.Obj):ak Tryz.prog 23 [.lp 0 0,gT] [.ro (.blk tS (.ag [.sa 1])),.ro (.obs eS 2 L),.gen 1] (nE (.bo (cX L []))) (fun _ _=>False):=bx (inl:=ca) (ann:=aV) (ae kN ay) (GB L) (by kernel_rfl)
theorem Gd (L M:List Sx.Obj) (hL:L.length<=1000):
 ((aR L||aR M)=true->(aR L&&aR M)=cX L M)/\
   ((aR L||aR M)=false->
     (decide (bU (an L)=bU (an M))=true->
       true=true/\
        ((aR L||aR M|| !decide (bU (an L)=bU (an M)))=true->true=cX L M)/\
          ((aR L||aR M|| !decide (bU (an L)=bU (an M)))=false->
            true=true/\
             true=true/\
              ∀(r0:Loop),
               (∃g,
                 jV L g/\
                  bU (an L)=bU (an L)/\0=g/\L=L/\M=M/\r0=r0/\ []=en L M g)/\
                ∀(g:Int),
                 jV L g->
                  (decide (g<bU (an L))=true->
                    (0<=g/\g< ↑(an L))/\
                     g.toNat<an L/\
                      g.toNat<an L/\
                       (0<=g/\g< ↑(an M))/\
                        g.toNat<an M/\
                         g.toNat<an M/\
                          ((!z0 (aq L g.toNat free) (aq M g.toNat free))=true->
                            r0=r0/\
                             r0=r0/\
                              oW (an (en L M g)) 8/\
                               r0=r0/\
                                aP IntKind.i64 (g+1)/\
                                 ∃g',
                                  jV L g'/\
                                   (bU (an L)-g').toNat<(bU (an L)-g).toNat/\
                                    bU (an L)=bU (an L)/\
                                     g+1=g'/\
                                      L=L/\
                                       M=M/\
                                        r0=r0/\
                                         gu (en L M g) g=en L M g')/\
                            ((!z0 (aq L g.toNat free) (aq M g.toNat free))=false->
                              aP IntKind.i64 (g+1)/\
                               ∃g',
                                jV L g'/\
                                 (bU (an L)-g').toNat<(bU (an L)-g).toNat/\
                                  bU (an L)=bU (an L)/\
                                   g+1=g'/\
                                    L=L/\M=M/\r0=r0/\en L M g=en L M g'))/\
                   (decide (g<bU (an L))=false->
                    decide (bU (an (en L M g))=0)=cX L M)))/\
      (decide (bU (an L)=bU (an M))=false->false=cX L M)):=by
 have hsn:∀a b:Bool,(a||b|| !decide (bU (an L)=bU (an M)))=true->(a||b)=false->¬(bU (an L)=bU (an M)):=fun a b h1 h2=>by
  rw[h2]at h1;simpa using h1
 refine⟨fun h=>?_,fun h0=>⟨fun he=>⟨rfl,fun h=>?_,fun h=>⟨rfl,rfl,fun r0=>?_⟩⟩,fun he=>?_⟩⟩
 ·unfold cX;cases ha:aR L<;>cases hb:aR M
  ·rw[ha,hb]at h;simp at h
  ·have:=jB.1 hb;subst this;symm
   show decide (L= [])=false
   rw[decide_eq_false_iff_not];rintro rfl;simp[jD]at ha
  ·have:=jB.1 ha;subst this;symm
   show decide ([]=M)=false
   rw[decide_eq_false_iff_not];rintro rfl;simp[jD]at hb
  ·rw[jB.1 ha,jB.1 hb];rfl
 ·exact absurd (VO he) (hsn _ _ h h0)
 ·have hlm:L.length=M.length:=by
   have h2:((aR L||aR M)|| !decide (bU (an L)=bU (an M)))=false:=h
   rw[Bool.or_eq_false_iff]at h2;have h3:=h2.2;rw[jF,jF]at h3;have h4:(L.length:Int)=(M.length:Int):=by simpa using h3
   omega
  have hn:=jF L;have hle:=pT L;have hle2:=pT M;refine⟨⟨0,⟨by omega,by omega⟩,rfl,rfl,rfl,rfl,rfl,rfl⟩,fun g hg=>⟨fun hlt=>?_,fun hge=>?_⟩⟩
  obtain⟨g0,g1⟩:=hg;have hlt:g<bU (an L):=VO hlt;rw[hn]at hlt⊢;have ht:=Aw (L:=L) (M:=M) (g:=g);have hr:aP IntKind.i64 (g+1):=by simp only[aP,cj];omega
  exact⟨⟨g0,by omega⟩,by omega,by omega,⟨g0,by omega⟩,by omega,by omega,fun h=>⟨rfl,rfl,Aj (by omega),rfl,hr,g+1,⟨by omega,by omega⟩,by omega,rfl,rfl,rfl,rfl,rfl,At g0 h⟩,fun h=>⟨hr,g+1,⟨by omega,by omega⟩,by omega,rfl,rfl,rfl,rfl,rfl,ED g0 h⟩⟩
  obtain⟨g0,g1⟩:=hg;have hge:¬g<bU (an L):=VN hge;rw[hn]at hge;rw[show g=(an L:Int) by omega]
  show decide (bU (an (ck L M))=0)=cX L M
  unfold cX;rw[decide_eq_decide,<-Mv hlm,jF];constructor
  ·intro hh;exact List.length_eq_zero_iff.1 (by omega)
  ·intro hh;rw[hh];rfl
 ·symm
  unfold cX;rw[decide_eq_false_iff_not];rintro rfl
  simp at he
theorem GG (L M:List Sx.Obj) (hL:L.length<=1000):ak Tryz.prog 23 [.lp 0 0,.lp 1 0] [.ro (.blk tS (.ag [.sa 2])),.ro (.blk tS (.ag [.sa 4])),.ro (.obs eS 3 L),.gen 2,.ro (.obs eS 5 M),.gen 4] (nE (.bo (cX L M))) (fun _ _=>False):=bx (inl:=(fun f=>f==43||f==66)) (ann:=(lr [(6000+103,1,T2 [0,1,2,6] (fun g=> [(7,.it .i64 g)]) 6 103 tI 1 (fun g=> .it .i64 (en L M g)) (jV L) (bU (an L)))])) (ae kN ay) (Gd L M hL) (by kernel_rfl)
theorem He:dD Tryz.prog 23 M7:=
 Oz (fun _ _=>rfl) GC (fun M _ _=>Fi M) (fun L _ _=>FM L) (fun L M hq _ _ _ _=>GG L M hq.1)
end Go.Proofs.YtlblcfaclmpekaaGreat
