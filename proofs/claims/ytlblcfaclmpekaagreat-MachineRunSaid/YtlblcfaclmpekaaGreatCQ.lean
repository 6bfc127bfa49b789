import Derived.Test.YtlblcfaclmpekaaGreatKS
set_option linter.unusedSimpArgs false
set_option linter.unusedVariables false
namespace Go.Proofs.YtlblcfaclmpekaaGreat
open Go.Sx
theorem PH {P:Program} {f:Nat} {g g':Ct} (h:dC P f g) (ha:∀res nid args q x new,g' res nid args=some (q,x,new)->∃x0,g res nid args=some (q,x0,new)/\(∀J,den J x=den J x0)/\∀K,ok K x0->ok K x):dC P f g':=by
 intro J fps res K w0 F0 w nid args q x new hH hargs hg hq hfr;obtain⟨x0,h1,h2,h3⟩:=ha res nid args q x new hg;obtain⟨c1,c2⟩:=h J fps res K w0 F0 w nid args q x0 new hH hargs h1 hq hfr;refine⟨c1.mono fun e w' ⟨v,he,hv⟩=>⟨v,he,?_⟩,c2⟩
 obtain⟨ρ',hgr,hv,hx⟩:=hv;exact⟨ρ',hgr,by rw[h2];exact hv,h3 _ hx⟩
theorem kH:dC Tryz.prog 42 EC:=by
 refine PH nY fun res nid args q x new h=>?_
 unfold EC at h;split at h
 ·rename_i a;split at h
  ·rename_i o L hr;split at h
   ·simp only[VE,VF]at h;obtain⟨rfl,rfl,rfl⟩:=h
    have hL:L= []:=by
     rcases pW hr with⟨_,rfl,_⟩|⟨k,h,_⟩
     ·rfl
     ·simp at h
    subst hL;exact⟨.bo (aU []),by unfold Cr Rk;simp only[hr],fun J=>by simp[den,jB],fun _ _=>trivial⟩
   ·simp only[VE,VF]at h;obtain⟨rfl,rfl,rfl⟩:=h;exact⟨.bo (aU L),by unfold Cr Rk;simp only[hr],fun J=>rfl,fun _ h=>h⟩
  ·simp at h
 ·simp at h
end Go.Proofs.YtlblcfaclmpekaaGreat
namespace Go.Proofs.YtlblcfaclmpekaaGreat
open Go.Sx
set_option maxRecDepth 100000
theorem Jm:
 Value.pointer none=Value.pointer none:=by
 rfl
theorem Hq:aj Tryz.prog 33 [gX] [] (nI gX) (fun _ _=>False):=bu (inl:=ca) (ann:=aR) (ab kH au) Jm (by kernel_rfl)
theorem I5 (L:List Sx.Obj) (hL:L.length<=1000):
 (aU L=true->aU L=true)/\
  (aU L=false->
   (∃g,
     jP L g/\
      Value.pointer none=Value.pointer none/\b6 (aq L)=b6 (aq L)/\0=g/\L=L/\ []=ki L g)/\
    ∀(g:Int),
     jP L g->
      (decide (g<b6 (aq L))=true->
        (0<=g/\g< ↑(aq L))/\
         g.toNat<aq L/\
          g.toNat<aq L/\
           oR (aq (ki L g)) 8/\
            aM IntKind.i64 (g+1)/\
             ∃g',
              jP L g'/\
               (b6 (aq L)-g').toNat<(b6 (aq L)-g).toNat/\
                Value.pointer none=Value.pointer none/\
                 b6 (aq L)=b6 (aq L)/\
                  g+1=g'/\L=L/\gx (ki L g) (ak L g.toNat free)=ki L g')/\
       (decide (g<b6 (aq L))=false->aU L=false/\ki L g=L)):=by
 refine⟨fun h=>h,fun h=>⟨⟨0,⟨by omega,by omega⟩,rfl,rfl,rfl,rfl,rfl⟩,fun g hg=>⟨fun hlt=>?_,fun hge=>?_⟩⟩⟩
 ·obtain⟨g0,g1⟩:=hg;have hlt:g<b6 (aq L):=VK hlt;have hn:=jG L;have hle:=pb L;rw[hn]at hlt⊢;have ht:=Ii (L:=L) (g:=g);exact⟨⟨g0,by omega⟩,by omega,by omega,zy (by omega),by simp only[aM,cj];omega,g+1,⟨by omega,by omega⟩,by omega,rfl,rfl,rfl,rfl,JY g0 hlt⟩
 ·obtain⟨g0,g1⟩:=hg;have hge:¬g<b6 (aq L):=VJ hge;rw[jG]at hge;exact⟨h,II (by omega)⟩
theorem Kc {L:List Sx.Obj} (hb:aU L=true) {v:V} {r:List aB} (h:AD L v r):vK gX v []:=by
 unfold AD at h;split at h
 ·split at h
  ·exact fun J K=>rn.refl _ _ _
  ·exact h.elim
 ·split at h
  ·split at h
   ·rw[hb]at h;simp at h
   ·exact h.elim
  ·exact h.elim
 ·exact h.elim
theorem FV {L:List Sx.Obj} (hb:aU L=false) {v:V} {r:List aB} (h:AD L v r):∃j r',1<=j/\(r'=r\/rM r j=some r')/\an r' j= .store tS eS L/\∀(κ:Nat->Option Nat) (i:Nat),κ j=some i->j8 κ v (.lp i 0):=by
 unfold AD at h;split at h
 ·split at h
  ·rw[hb]at h;simp at h
  ·exact h.elim
 ·split at h
  ·rename_i j off _ t e M hst;split at h
   ·rename_i hc;simp only[VG,VI,Nat.ble_eq]at hc;obtain⟨⟨⟨rfl,rfl⟩,rfl⟩,hj⟩:=hc;obtain⟨_,rfl⟩:=h;have ht:∀(κ:Nat->Option Nat) (i:Nat),κ j=some i->j8 κ (.lp j 0) (.lp i 0):=fun κ i hi ρ2 ρ3 N N' hv hN hk=>⟨by simp only[den,(hv j i hi).1],hN j i hi hk⟩
    rcases BU hst with h1|⟨r',h1,h2⟩
    ·exact⟨j,r,hj,.inl rfl,h1,ht⟩
    ·exact⟨j,r',hj,.inr h1,h2,ht⟩
   ·exact h.elim
  ·exact h.elim
 ·exact h.elim
theorem MX {L M:List Sx.Obj} (hb:iL L M=true) {v:V} {r:List aB} (h:Kt L M v r):vK RS v []:=by
 unfold Kt at h;split at h
 ·split at h
  ·exact fun J K=>rn.refl _ _ _
  ·exact h.elim
 ·split at h
  ·split at h
   ·split at h
    ·split at h
     ·split at h
      ·rw[hb]at h;simp at h
      ·exact h.elim
     ·exact h.elim
    ·exact h.elim
   ·exact h.elim
  ·exact h.elim
 ·exact h.elim
theorem HN {L M:List Sx.Obj} (hb:iL L M=false) {v:V} {r:List aB} (h:Kt L M v r):∃j,2<=j/\an r j= .arr (some tI) 1 (.it .i64 (cq L M))/\∀(κ:Nat->Option Nat) (i:Nat),κ j=some i->j8 κ v (.sa i):=by
 unfold Kt at h;split at h
 ·split at h
  ·rw[hb]at h;simp at h
  ·exact h.elim
 ·split at h
  ·rename_i hj;split at h
   ·split at h
    ·split at h
     ·split at h
      ·rename_i hc;simp only[VG,VI,Nat.ble_eq]at hc;obtain⟨⟨rfl,rfl⟩,hj2⟩:=hc;obtain⟨_,rfl⟩:=h;exact⟨_,hj2,hj,fun κ i hi ρ2 ρ3 N N' hv hN hk=>⟨by simp only[den,(hv _ i hi).2.1,(hv _ i hi).2.2.2.1,(hv _ i hi).2.2.2.2.1],hN _ i hi hk⟩⟩
      ·exact h.elim
     ·exact h.elim
    ·exact h.elim
   ·exact h.elim
  ·exact h.elim
 ·exact h.elim
theorem BH (L:List Sx.Obj) (hL:L.length<=1000):aj Tryz.prog 33 [.lp 0 0] [.ro (.blk tS (.ag [.sa 1])),.ro (.obs eS 2 L),.gen 1] (AD L) (fun _ _=>False):=bu (inl:=ca) (ann:=(kV [(33,5,Vi [0,2,3,14,15] (fun g=> [(16,.it .i64 g)]) 3 tS eS (ki L) (jP L) (b6 (aq L)))])) (ab kH au) (I5 L hL) (by kernel_rfl)
theorem zn:oP Tryz.prog 33 KQ:=by
 intro args res K KP h;unfold KQ at h;split at h
 ·split at h
  ·split at h
   ·exact aj.pure rfl rfl (Hq.mono (fun _ _ h=>cM h) fun _ _ h=>h) h
   ·exact h.elim
  ·rename_i k off;split at h
   ·rename_i hoff;have hoff:=VI.1 hoff;subst hoff;split at h
    ·rename_i t e L hr;split at h
     ·rename_i hc;simp only[VG,VI]at hc;obtain⟨rfl,rfl⟩:=hc;obtain⟨hL,h1,h2⟩:=h;have hk:=eO hr (by simp)
      have hlt:=aF hk;have hres:eF (ky 0 (dr [(k,false)])) res [(k,false)]= [.ro (.store tS eS L)]:=by simp[eF,hr,fZ]
      cases hb:aU L with
      |true=>
       refine aj.Pg (pl:= [(k,false)]) (x:=gX) (args0:= [.lp 0 0]) (by simp[eE,cx.2 hk]) (by simpa[iT,dr,pw]using hlt) (by simp) (by simp[dU,e9,ky,idxOf,dr]) rfl ?_ (h1 hb)
       rw[hres];exact(aj.dI (k:=0) rfl (BH L hL)).mono (fun v r hv=>Kc hb hv) fun _ _ h=>h
      |false=>
       refine aj.R3 (pl:= [(k,false)]) (new:= .store tS eS L) (F:=fun j=> .lp j 0) (args0:= [.lp 0 0]) (by simp[eE,cx.2 hk]) (by simpa[iT,dr,pw]using hlt) (by simp) (by simp[dU,e9,ky,idxOf,dr]) rfl (by simp) (fun κ=>rfl) ?_ (h2 hb)
       rw[hres];refine aj.dI (k:=0) rfl (aj.shut (BH L hL) fun v r hv=>?_)
       obtain⟨j,r',hj,h1,h2,h3⟩:=FV hb hv;rcases h1 with rfl|h1
       ·exact .inl ⟨j,hj,h2,h3⟩
       ·exact .inr ⟨j,r',h1,j,hj,h2,h3⟩
     ·exact h.elim
    ·exact h.elim
   ·exact h.elim
  ·exact h.elim
 ·exact h.elim
theorem Oe (L:List Sx.Obj):
 Value.slice none 0 0=Value.slice none 0 0:=by
 rfl
theorem Mw (L:List Sx.Obj):aj Tryz.prog 43 [gX,.lp 0 0] [.ro (.store tS eS L)] (nI RS) (fun _ _=>False):=bu (inl:=ca) (ann:=aR) (ab kH au) (Oe L) (by kernel_rfl)
theorem M5 (L M:List Sx.Obj) (hL:L.length<=1000):
 ((aU L||aU M|| !decide (b6 (aq L)=b6 (aq M)))=true->iL L M=true)/\
   ((aU L||aU M|| !decide (b6 (aq L)=b6 (aq M)))=false->
     true=true/\
      true=true/\
       ∀(r0:Loop),
        (∃g,jP L g/\b6 (aq L)=b6 (aq L)/\0=g/\L=L/\M=M/\r0=r0/\ []=eg L M g)/\
         ∀(g:Int),
          jP L g->
           (decide (g<b6 (aq L))=true->
             (0<=g/\g< ↑(aq L))/\
              g.toNat<aq L/\
               g.toNat<aq L/\
                (0<=g/\g< ↑(aq M))/\
                 g.toNat<aq M/\
                  g.toNat<aq M/\
                   ((!z9 (ak L g.toNat free) (ak M g.toNat free))=true->
                     r0=r0/\
                      r0=r0/\
                       oR (aq (eg L M g)) 8/\
                        r0=r0/\
                         aM IntKind.i64 (g+1)/\
                          ∃g',
                           jP L g'/\
                            (b6 (aq L)-g').toNat<(b6 (aq L)-g).toNat/\
                             b6 (aq L)=b6 (aq L)/\
                              g+1=g'/\
                               L=L/\
                                M=M/\r0=r0/\gx (eg L M g) g=eg L M g')/\
                     ((!z9 (ak L g.toNat free) (ak M g.toNat free))=false->
                       aM IntKind.i64 (g+1)/\
                        ∃g',
                         jP L g'/\
                          (b6 (aq L)-g').toNat<(b6 (aq L)-g).toNat/\
                           b6 (aq L)=b6 (aq L)/\
                            g+1=g'/\L=L/\M=M/\r0=r0/\eg L M g=eg L M g'))/\
            (decide (g<b6 (aq L))=false->iL L M=false/\eg L M g=cq L M)):=by
 refine⟨fun h=>h,fun h=>⟨rfl,rfl,fun r0=>?_⟩⟩
 have hlm:L.length=M.length:=by
  have h2:((aU L||aU M)|| !decide (b6 (aq L)=b6 (aq M)))=false:=h
  rw[Bool.or_eq_false_iff]at h2;have h3:=h2.2;rw[jG,jG]at h3;have h4:(L.length:Int)=(M.length:Int):=by simpa using h3
  omega
 have hn:=jG L;have hle:=pb L;have hle2:=pb M;refine⟨⟨0,⟨by omega,by omega⟩,rfl,rfl,rfl,rfl,rfl,rfl⟩,fun g hg=>⟨fun hlt=>?_,fun hge=>?_⟩⟩
 obtain⟨g0,g1⟩:=hg;have hlt:g<b6 (aq L):=VK hlt;rw[hn]at hlt⊢;have ht:=A7 (L:=L) (M:=M) (g:=g);have hr:aM IntKind.i64 (g+1):=by simp only[aM,cj];omega
 exact⟨⟨g0,by omega⟩,by omega,by omega,⟨g0,by omega⟩,by omega,by omega,fun h=>⟨rfl,rfl,zy (by omega),rfl,hr,g+1,⟨by omega,by omega⟩,by omega,rfl,rfl,rfl,rfl,rfl,Cd g0 h⟩,fun h=>⟨hr,g+1,⟨by omega,by omega⟩,by omega,rfl,rfl,rfl,rfl,rfl,EP g0 h⟩⟩
 obtain⟨g0,g1⟩:=hg;have hge:¬g<b6 (aq L):=VJ hge;rw[hn]at hge;exact⟨h,by unfold cq;rw[show g=(aq L:Int) by omega]⟩
theorem DP (L M:List Sx.Obj) (hL:L.length<=1000):aj Tryz.prog 43 [.lp 0 0,.lp 1 0] [.ro (.blk tS (.ag [.sa 2])),.ro (.blk tS (.ag [.sa 4])),.ro (.obs eS 3 L),.gen 2,.ro (.obs eS 5 M),.gen 4] (Kt L M) (fun _ _=>False):=bu (inl:=(fun f=>f==43||f==66)) (ann:=(kV [(6000+103,1,Ty [0,1,2,6] (fun g=> [(7,.it .i64 g)]) 6 103 tI 1 (fun g=> .it .i64 (eg L M g)) (jP L) (b6 (aq L)))])) (ab kH au) (M5 L M hL) (by kernel_rfl)
theorem Dk:oP Tryz.prog 43 OP:=by
 intro args res K KP h;unfold OP at h;split at h
 ·rename_i a b;split at h
  ·rename_i j off;split at h
   ·rename_i hoff;have hoff:=VI.1 hoff;subst hoff;split at h
    ·rename_i t e M hr;split at h
     ·rename_i hc;simp only[VG,VI]at hc;obtain⟨rfl,rfl⟩:=hc;have hj:=eO hr (by simp)
      have hjl:=aF hj;split at h
      ·split at h
       ·have hres:eF (ky 0 (dr [(j,false)])) res [(j,false)]= [.ro (.store tS eS M)]:=by simp[eF,hr,fZ]
        refine aj.Pg (pl:= [(j,false)]) (x:=RS) (args0:= [gX,.lp 0 0]) (by simp[eE,cx.2 hj]) (by simpa[iT,dr,pw]using hjl) (by simp) (by simp[dU,e9,ky,idxOf,dr,gX]) rfl ?_ h
        rw[hres];exact(Mw M).mono (fun _ _ h=>cM h) fun _ _ h=>h
       ·exact h.elim
      ·rename_i k off';split at h
       ·rename_i hoff;simp only[VG,VI,Bool.not_eq_true',beq_eq_false_iff_ne]at hoff;obtain⟨rfl,hkj⟩:=hoff;split at h
        ·rename_i t' e' L hrk;split at h
         ·rename_i hc;simp only[VG,VI]at hc;obtain⟨rfl,rfl⟩:=hc;obtain⟨hL,h1,h2⟩:=h;have hk:=eO hrk (by simp)
          have hkl:=aF hk;have hres:eF (ky 0 (dr [(k,false),(j,false)])) res [(k,false),(j,false)]= [.ro (.store tS eS L),.ro (.store tS eS M)]:=by simp[eF,hr,hrk,fZ]
          have hargs:dU (ky 0 (dr [(k,false),(j,false)])) [.lp k 0,.lp j 0]=some [.lp 0 0,.lp 1 0]:=by
           simp[dU,e9,ky,idxOf,dr,hkj]
          have hka:eE res [(k,false),(j,false)]=true:=by simp[eE,cx.2 hk,cx.2 hj]
          have hoe:iT 0 res.length (dr [(k,false),(j,false)])=true:=by simpa[iT,dr,pw]using⟨⟨hkl,Ne.symm hkj⟩,hjl⟩
          cases hb:iL L M with
          |true=>
           refine aj.Pg (x:=RS) hka hoe (by simp) hargs rfl ?_ (h1 hb)
           rw[hres];exact(aj.dI (k:=0) rfl (aj.dI (k:=1) rfl (DP L M hL))).mono (fun v r hv=>MX hb hv) fun _ _ h=>h
          |false=>
           refine aj.R3 (new:= .arr (some tI) 1 (.it .i64 (cq L M))) (F:=fun j=> .sa j) hka hoe (by simp) hargs rfl (by simp) (fun κ=>rfl) ?_ (h2 hb)
           rw[hres];exact(aj.dI (k:=0) rfl (aj.dI (k:=1) rfl (DP L M hL))).mono (fun v r hv=>HN hb hv) fun _ _ h=>h
         ·exact h.elim
        ·exact h.elim
       ·exact h.elim
      ·exact h.elim
     ·exact h.elim
    ·exact h.elim
   ·exact h.elim
  ·exact h.elim
 ·exact h.elim
end Go.Proofs.YtlblcfaclmpekaaGreat
