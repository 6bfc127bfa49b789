import Derived.Test.YtlblcfaclmpekaaGreatCQ
import Derived.Test.YtlblcfaclmpekaaGreatCN
namespace Go.Proofs.YtlblcfaclmpekaaGreat
open Go.Sx
theorem Gf:
 true=eA [] []:=by
 rfl
theorem G4:aj Tryz.prog 23 [gJ,gJ] [] (oR (.bo (eA [] []))) (fun _ _=>False):=bd (inl:=bS) (ann:=aO) (ab kP an) Gf (by kernel_rfl)
theorem GX (L:List Sx.Obj):
 aP L=eA [] L:=by
 unfold eA;cases hb:aP L with
 |true=>rw[jM.1 hb];rfl
 |false=>symm;rw[decide_eq_false_iff_not];rintro rfl;simp[jD]at hb
theorem Gs (L:List Sx.Obj):aj Tryz.prog 23 [gJ,.lp 0 0] [.ro (.blk tS (.ag [.sa 1])),.ro (.obs eS 2 L),.gen 1] (oR (.bo (eA [] L))) (fun _ _=>False):=bd (inl:=bS) (ann:=aO) (ab kP an) (GX L) (by kernel_rfl)
theorem Ho (L:List Sx.Obj):
 ((aP L||true)=true->(aP L||false)=eA L [])/\((aP L||true)=false->False):=by
 refine⟨fun _=>?_,fun h=>by simp at h⟩
 rw[Bool.or_false];unfold eA;cases hb:aP L with
 |true=>rw[jM.1 hb];rfl
 |false=>symm;rw[decide_eq_false_iff_not];rintro rfl;simp[jD]at hb
theorem GJ (L:List Sx.Obj):aj Tryz.prog 23 [.lp 0 0,gJ] [.ro (.blk tS (.ag [.sa 1])),.ro (.obs eS 2 L),.gen 1] (oR (.bo (eA L []))) (fun _ _=>False):=bd (inl:=bS) (ann:=aO) (ab kP an) (Ho L) (by kernel_rfl)
theorem FZ (L M:List Sx.Obj) (hL:L.length<=1000):
 ((aP L||aP M)=true->(aP L&&aP M)=eA L M)/\
   ((aP L||aP M)=false->
     (decide (bH (ak L)=bH (ak M))=true->
       true=true/\
        ((aP L||aP M|| !decide (bH (ak L)=bH (ak M)))=true->true=eA L M)/\
          ((aP L||aP M|| !decide (bH (ak L)=bH (ak M)))=false->
            true=true/\
             true=true/\
              ∀(r0:Loop),
               (∃g,
                 j4 L g/\
                  bH (ak L)=bH (ak L)/\0=g/\L=L/\M=M/\r0=r0/\ []=eg L M g)/\
                ∀(g:Int),
                 j4 L g->
                  (decide (g<bH (ak L))=true->
                    (0<=g/\g< ↑(ak L))/\
                     g.toNat<ak L/\
                      g.toNat<ak L/\
                       (0<=g/\g< ↑(ak M))/\
                        g.toNat<ak M/\
                         g.toNat<ak M/\
                          ((!vk (ai L g.toNat free) (ai M g.toNat free))=true->
                            r0=r0/\
                             r0=r0/\
                              qN (ak (eg L M g)) 8/\
                               r0=r0/\
                                aL IntKind.i64 (g+1)/\
                                 ∃g',
                                  j4 L g'/\
                                   (bH (ak L)-g').toNat<(bH (ak L)-g).toNat/\
                                    bH (ak L)=bH (ak L)/\
                                     g+1=g'/\
                                      L=L/\
                                       M=M/\
                                        r0=r0/\
                                         gD (eg L M g) g=eg L M g')/\
                            ((!vk (ai L g.toNat free) (ai M g.toNat free))=false->
                              aL IntKind.i64 (g+1)/\
                               ∃g',
                                j4 L g'/\
                                 (bH (ak L)-g').toNat<(bH (ak L)-g).toNat/\
                                  bH (ak L)=bH (ak L)/\
                                   g+1=g'/\
                                    L=L/\M=M/\r0=r0/\eg L M g=eg L M g'))/\
                   (decide (g<bH (ak L))=false->
                    decide (bH (ak (eg L M g))=0)=eA L M)))/\
      (decide (bH (ak L)=bH (ak M))=false->false=eA L M)):=by
 have hsn:∀a b:Bool,(a||b|| !decide (bH (ak L)=bH (ak M)))=true->(a||b)=false->¬(bH (ak L)=bH (ak M)):=fun a b h1 h2=>by
  rw[h2]at h1;simpa using h1
 refine⟨fun h=>?_,fun h0=>⟨fun he=>⟨rfl,fun h=>?_,fun h=>⟨rfl,rfl,fun r0=>?_⟩⟩,fun he=>?_⟩⟩
 ·unfold eA;cases ha:aP L<;>cases hb:aP M
  ·rw[ha,hb]at h;simp at h
  ·have:=jM.1 hb;subst this;symm
   show decide (L= [])=false
   rw[decide_eq_false_iff_not];rintro rfl;simp[jD]at ha
  ·have:=jM.1 ha;subst this;symm
   show decide ([]=M)=false
   rw[decide_eq_false_iff_not];rintro rfl;simp[jD]at hb
  ·rw[jM.1 ha,jM.1 hb];rfl
 ·exact absurd (Xs he) (hsn _ _ h h0)
 ·have hlm:L.length=M.length:=by
   have h2:((aP L||aP M)|| !decide (bH (ak L)=bH (ak M)))=false:=h
   rw[Bool.or_eq_false_iff]at h2;have h3:=h2.2;rw[gA,gA]at h3;have h4:(L.length:Int)=(M.length:Int):=by simpa using h3
   omega
  have hn:=gA L;have hle:=kL L;have hle2:=kL M;refine⟨⟨0,⟨by omega,by omega⟩,rfl,rfl,rfl,rfl,rfl,rfl⟩,fun g hg=>⟨fun hlt=>?_,fun hge=>?_⟩⟩
  obtain⟨g0,g1⟩:=hg;have hlt:g<bH (ak L):=Xs hlt;rw[hn]at hlt⊢;have ht:=BR (L:=L) (M:=M) (g:=g);have hr:aL IntKind.i64 (g+1):=by simp only[aL,cg];omega
  exact⟨⟨g0,by omega⟩,by omega,by omega,⟨g0,by omega⟩,by omega,by omega,fun h=>⟨rfl,rfl,Ao (by omega),rfl,hr,g+1,⟨by omega,by omega⟩,by omega,rfl,rfl,rfl,rfl,rfl,BJ g0 h⟩,fun h=>⟨hr,g+1,⟨by omega,by omega⟩,by omega,rfl,rfl,rfl,rfl,rfl,ET g0 h⟩⟩
  obtain⟨g0,g1⟩:=hg;have hge:¬g<bH (ak L):=Xr hge;rw[hn]at hge;rw[show g=(ak L:Int) by omega]
  show decide (bH (ak (cy L M))=0)=eA L M
  unfold eA;rw[decide_eq_decide,<-Od hlm,gA];constructor
  ·intro hh;exact List.length_eq_zero_iff.1 (by omega)
  ·intro hh;rw[hh];rfl
 ·symm
  unfold eA;rw[decide_eq_false_iff_not];rintro rfl
  simp at he
theorem Gg (L M:List Sx.Obj) (hL:L.length<=1000):aj Tryz.prog 23 [.lp 0 0,.lp 1 0] [.ro (.blk tS (.ag [.sa 2])),.ro (.blk tS (.ag [.sa 4])),.ro (.obs eS 3 L),.gen 2,.ro (.obs eS 5 M),.gen 4] (oR (.bo (eA L M))) (fun _ _=>False):=bd (inl:=(fun f=>f==43||f==66)) (ann:=(kg [(6000+103,1,Vt [0,1,2,6] (fun g=> [(7,.it .i64 g)]) 6 103 tI 1 (fun g=> .it .i64 (eg L M g)) (j4 L) (bH (ak L)))])) (ab kP an) (FZ L M hL) (by kernel_rfl)
theorem LN:cV Tryz.prog 23 Np:=
 Pv (fun _ _=>rfl) G4 (fun M _ _=>Gs M) (fun L _ _=>GJ L) (fun L M hq _ _ _ _=>Gg L M hq.1)
end Go.Proofs.YtlblcfaclmpekaaGreat
