import Derived.Test.YtlblcfaclmpekaaGreatCQ
import Derived.Test.YtlblcfaclmpekaaGreatCN
namespace Go.Proofs.YtlblcfaclmpekaaGreat
open Go.Sx
theorem FB:
 true=fE [] []:=by
 rfl
theorem GB:aj Tryz.prog 23 [gX,gX] [] (nI (.bo (fE [] []))) (fun _ _=>False):=bu (inl:=ca) (ann:=aR) (ab kH au) FB (by kernel_rfl)
theorem E9 (L:List Sx.Obj):
 aU L=fE [] L:=by
 unfold fE;cases hb:aU L with
 |true=>rw[jy.1 hb];rfl
 |false=>symm;rw[decide_eq_false_iff_not];rintro rfl;simp[jB]at hb
theorem F9 (L:List Sx.Obj):aj Tryz.prog 23 [gX,.lp 0 0] [.ro (.blk tS (.ag [.sa 1])),.ro (.obs eS 2 L),.gen 1] (nI (.bo (fE [] L))) (fun _ _=>False):=bu (inl:=ca) (ann:=aR) (ab kH au) (E9 L) (by kernel_rfl)
theorem Fc (L:List Sx.Obj):
 ((aU L||true)=true->(aU L||false)=fE L [])/\((aU L||true)=false->False):=by
 refine⟨fun _=>?_,fun h=>by simp at h⟩
 rw[Bool.or_false];unfold fE;cases hb:aU L with
 |true=>rw[jy.1 hb];rfl
 |false=>symm;rw[decide_eq_false_iff_not];rintro rfl;simp[jB]at hb
theorem Gm (L:List Sx.Obj):aj Tryz.prog 23 [.lp 0 0,gX] [.ro (.blk tS (.ag [.sa 1])),.ro (.obs eS 2 L),.gen 1] (nI (.bo (fE L []))) (fun _ _=>False):=bu (inl:=ca) (ann:=aR) (ab kH au) (Fc L) (by kernel_rfl)
theorem GF (L M:List Sx.Obj) (hL:L.length<=1000):
 ((aU L||aU M)=true->(aU L&&aU M)=fE L M)/\
   ((aU L||aU M)=false->
     (decide (b6 (aq L)=b6 (aq M))=true->
       true=true/\
        ((aU L||aU M|| !decide (b6 (aq L)=b6 (aq M)))=true->true=fE L M)/\
          ((aU L||aU M|| !decide (b6 (aq L)=b6 (aq M)))=false->
            true=true/\
             true=true/\
              ∀(r0:Loop),
               (∃g,
                 jP L g/\
                  b6 (aq L)=b6 (aq L)/\0=g/\L=L/\M=M/\r0=r0/\ []=eg L M g)/\
                ∀(g:Int),
                 jP L g->
                  (decide (g<b6 (aq L))=true->
                    (0<=g/\g< ↑(aq L))/\
                     g.toNat<aq L/\
                      g.toNat<aq L/\
                       (0<=g/\g< ↑(aq M))/\
                        g.toNat<aq M/\
                         g.toNat<aq M/\
                          ((!z9 (ak L g.toNat free) (ak M g.toNat free))=true->
                            r0=r0/\
                             r0=r0/\
                              oR (aq (eg L M g)) 8/\
                               r0=r0/\
                                aM IntKind.i64 (g+1)/\
                                 ∃g',
                                  jP L g'/\
                                   (b6 (aq L)-g').toNat<(b6 (aq L)-g).toNat/\
                                    b6 (aq L)=b6 (aq L)/\
                                     g+1=g'/\
                                      L=L/\
                                       M=M/\
                                        r0=r0/\
                                         gx (eg L M g) g=eg L M g')/\
                            ((!z9 (ak L g.toNat free) (ak M g.toNat free))=false->
                              aM IntKind.i64 (g+1)/\
                               ∃g',
                                jP L g'/\
                                 (b6 (aq L)-g').toNat<(b6 (aq L)-g).toNat/\
                                  b6 (aq L)=b6 (aq L)/\
                                   g+1=g'/\
                                    L=L/\M=M/\r0=r0/\eg L M g=eg L M g'))/\
                   (decide (g<b6 (aq L))=false->
                    decide (b6 (aq (eg L M g))=0)=fE L M)))/\
      (decide (b6 (aq L)=b6 (aq M))=false->false=fE L M)):=by
 have hsn:∀a b:Bool,(a||b|| !decide (b6 (aq L)=b6 (aq M)))=true->(a||b)=false->¬(b6 (aq L)=b6 (aq M)):=fun a b h1 h2=>by
  rw[h2]at h1;simpa using h1
 refine⟨fun h=>?_,fun h0=>⟨fun he=>⟨rfl,fun h=>?_,fun h=>⟨rfl,rfl,fun r0=>?_⟩⟩,fun he=>?_⟩⟩
 ·unfold fE;cases ha:aU L<;>cases hb:aU M
  ·rw[ha,hb]at h;simp at h
  ·have:=jy.1 hb;subst this;symm
   show decide (L= [])=false
   rw[decide_eq_false_iff_not];rintro rfl;simp[jB]at ha
  ·have:=jy.1 ha;subst this;symm
   show decide ([]=M)=false
   rw[decide_eq_false_iff_not];rintro rfl;simp[jB]at hb
  ·rw[jy.1 ha,jy.1 hb];rfl
 ·exact absurd (VK he) (hsn _ _ h h0)
 ·have hlm:L.length=M.length:=by
   have h2:((aU L||aU M)|| !decide (b6 (aq L)=b6 (aq M)))=false:=h
   rw[Bool.or_eq_false_iff]at h2;have h3:=h2.2;rw[jG,jG]at h3;have h4:(L.length:Int)=(M.length:Int):=by simpa using h3
   omega
  have hn:=jG L;have hle:=pb L;have hle2:=pb M;refine⟨⟨0,⟨by omega,by omega⟩,rfl,rfl,rfl,rfl,rfl,rfl⟩,fun g hg=>⟨fun hlt=>?_,fun hge=>?_⟩⟩
  obtain⟨g0,g1⟩:=hg;have hlt:g<b6 (aq L):=VK hlt;rw[hn]at hlt⊢;have ht:=A7 (L:=L) (M:=M) (g:=g);have hr:aM IntKind.i64 (g+1):=by simp only[aM,cj];omega
  exact⟨⟨g0,by omega⟩,by omega,by omega,⟨g0,by omega⟩,by omega,by omega,fun h=>⟨rfl,rfl,zy (by omega),rfl,hr,g+1,⟨by omega,by omega⟩,by omega,rfl,rfl,rfl,rfl,rfl,Cd g0 h⟩,fun h=>⟨hr,g+1,⟨by omega,by omega⟩,by omega,rfl,rfl,rfl,rfl,rfl,EP g0 h⟩⟩
  obtain⟨g0,g1⟩:=hg;have hge:¬g<b6 (aq L):=VJ hge;rw[hn]at hge;rw[show g=(aq L:Int) by omega]
  show decide (b6 (aq (cq L M))=0)=fE L M
  unfold fE;rw[decide_eq_decide,<-NA hlm,jG];constructor
  ·intro hh;exact List.length_eq_zero_iff.1 (by omega)
  ·intro hh;rw[hh];rfl
 ·symm
  unfold fE;rw[decide_eq_false_iff_not];rintro rfl
  simp at he
theorem Fi (L M:List Sx.Obj) (hL:L.length<=1000):aj Tryz.prog 23 [.lp 0 0,.lp 1 0] [.ro (.blk tS (.ag [.sa 2])),.ro (.blk tS (.ag [.sa 4])),.ro (.obs eS 3 L),.gen 2,.ro (.obs eS 5 M),.gen 4] (nI (.bo (fE L M))) (fun _ _=>False):=bu (inl:=(fun f=>f==43||f==66)) (ann:=(kV [(6000+103,1,Ty [0,1,2,6] (fun g=> [(7,.it .i64 g)]) 6 103 tI 1 (fun g=> .it .i64 (eg L M g)) (jP L) (b6 (aq L)))])) (ab kH au) (GF L M hL) (by kernel_rfl)
theorem Lg:dC Tryz.prog 23 Nz:=
 OD (fun _ _=>rfl) GB (fun M _ _=>F9 M) (fun L _ _=>Gm L) (fun L M hq _ _ _ _=>Fi L M hq.1)
end Go.Proofs.YtlblcfaclmpekaaGreat
