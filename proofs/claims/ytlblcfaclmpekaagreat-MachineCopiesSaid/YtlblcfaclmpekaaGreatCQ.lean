import Derived.Test.YtlblcfaclmpekaaGreatKS
set_option linter.unusedSimpArgs false
set_option linter.unusedVariables false
namespace Go.Proofs.YtlblcfaclmpekaaGreat
open Go.Sx
theorem RJ {P:Program} {f:Nat} {g g':Ct} (h:dD P f g) (ha:∀res nid args q x new,g' res nid args=some (q,x,new)->∃x0,g res nid args=some (q,x0,new)/\(∀J,den J x=den J x0)/\∀K,ok K x0->ok K x):dD P f g':=by
 intro J fps res K w0 F0 w nid args q x new hH hargs hg hq hfr;obtain⟨x0,h1,h2,h3⟩:=ha res nid args q x new hg;obtain⟨c1,c2⟩:=h J fps res K w0 F0 w nid args q x0 new hH hargs h1 hq hfr;refine⟨c1.mono fun e w' ⟨v,he,hv⟩=>⟨v,he,?_⟩,c2⟩
 obtain⟨ρ',hgr,hv,hx⟩:=hv;exact⟨ρ',hgr,by rw[h2];exact hv,h3 _ hx⟩
theorem kN:dD Tryz.prog 42 D7:=by
 refine RJ nM fun res nid args q x new h=>?_
 unfold D7 at h;split at h
 ·rename_i a;split at h
  ·rename_i o L hr;split at h
   ·simp only[VI,VJ]at h;obtain⟨rfl,rfl,rfl⟩:=h
    have hL:L= []:=by
     rcases qm hr with⟨_,rfl,_⟩|⟨k,h,_⟩
     ·rfl
     ·simp at h
    subst hL;exact⟨.bo (aR []),by unfold CJ PW;simp only[hr],fun J=>by simp[den,jD],fun _ _=>trivial⟩
   ·simp only[VI,VJ]at h;obtain⟨rfl,rfl,rfl⟩:=h;exact⟨.bo (aR L),by unfold CJ PW;simp only[hr],fun J=>rfl,fun _ h=>h⟩
  ·simp at h
 ·simp at h
end Go.Proofs.YtlblcfaclmpekaaGreat
namespace Go.Proofs.YtlblcfaclmpekaaGreat
open Go.Sx
set_option maxRecDepth 100000
theorem JD:
 Value.pointer none=Value.pointer none:=by
 rfl
theorem Iz:ak Tryz.prog 33 [gT] [] (nE gT) (fun _ _=>False):=bx (inl:=ca) (ann:=aV) (ae kN ay) JD (by kernel_rfl)
theorem Lb (L:List Sx.Obj) (hL:L.length<=1000):
 (aR L=true->aR L=true)/\
  (aR L=false->
   (∃g,
     jV L g/\
      Value.pointer none=Value.pointer none/\bU (an L)=bU (an L)/\0=g/\L=L/\ []=ka L g)/\
    ∀(g:Int),
     jV L g->
      (decide (g<bU (an L))=true->
        (0<=g/\g< ↑(an L))/\
         g.toNat<an L/\
          g.toNat<an L/\
           oW (an (ka L g)) 8/\
            aP IntKind.i64 (g+1)/\
             ∃g',
              jV L g'/\
               (bU (an L)-g').toNat<(bU (an L)-g).toNat/\
                Value.pointer none=Value.pointer none/\
                 bU (an L)=bU (an L)/\
                  g+1=g'/\L=L/\gu (ka L g) (aq L g.toNat free)=ka L g')/\
       (decide (g<bU (an L))=false->aR L=false/\ka L g=L)):=by
 refine⟨fun h=>h,fun h=>⟨⟨0,⟨by omega,by omega⟩,rfl,rfl,rfl,rfl,rfl⟩,fun g hg=>⟨fun hlt=>?_,fun hge=>?_⟩⟩⟩
 ·obtain⟨g0,g1⟩:=hg;have hlt:g<bU (an L):=VO hlt;have hn:=jF L;have hle:=pT L;rw[hn]at hlt⊢;have ht:=JZ (L:=L) (g:=g);exact⟨⟨g0,by omega⟩,by omega,by omega,Aj (by omega),by simp only[aP,cj];omega,g+1,⟨by omega,by omega⟩,by omega,rfl,rfl,rfl,rfl,HU g0 hlt⟩
 ·obtain⟨g0,g1⟩:=hg;have hge:¬g<bU (an L):=VN hge;rw[jF]at hge;exact⟨h,G3 (by omega)⟩
theorem JO {L:List Sx.Obj} (hb:aR L=true) {v:V} {r:List aC} (h:Bn L v r):wv gT v []:=by
 unfold Bn at h;split at h
 ·split at h
  ·exact fun J K=>qR.refl _ _ _
  ·exact h.elim
 ·split at h
  ·split at h
   ·rw[hb]at h;simp at h
   ·exact h.elim
  ·exact h.elim
 ·exact h.elim
theorem Ge {L:List Sx.Obj} (hb:aR L=false) {v:V} {r:List aC} (h:Bn L v r):∃j r',1<=j/\(r'=r\/r6 r j=some r')/\ar r' j= .store tS eS L/\∀(κ:Nat->Option Nat) (i:Nat),κ j=some i->j7 κ v (.lp i 0):=by
 unfold Bn at h;split at h
 ·split at h
  ·rw[hb]at h;simp at h
  ·exact h.elim
 ·split at h
  ·rename_i j off _ t e M hst;split at h
   ·rename_i hc;simp only[VK,VM,Nat.ble_eq]at hc;obtain⟨⟨⟨rfl,rfl⟩,rfl⟩,hj⟩:=hc;obtain⟨_,rfl⟩:=h;have ht:∀(κ:Nat->Option Nat) (i:Nat),κ j=some i->j7 κ (.lp j 0) (.lp i 0):=fun κ i hi ρ2 ρ3 N N' hv hN hk=>⟨by simp only[den,(hv j i hi).1],hN j i hi hk⟩
    rcases BQ hst with h1|⟨r',h1,h2⟩
    ·exact⟨j,r,hj,.inl rfl,h1,ht⟩
    ·exact⟨j,r',hj,.inr h1,h2,ht⟩
   ·exact h.elim
  ·exact h.elim
 ·exact h.elim
theorem NH {L M:List Sx.Obj} (hb:iI L M=true) {v:V} {r:List aC} (h:JB L M v r):wv R3 v []:=by
 unfold JB at h;split at h
 ·split at h
  ·exact fun J K=>qR.refl _ _ _
  ·exact h.elim
 ·split at h
  ·split at h
   ·split at h
    ·split at h
     ·split at h
      ·rw[hb]at h;simp at h
      ·exact h.elim
     ·exact h.elim
    ·exact h.elim
   ·exact h.elim
  ·exact h.elim
 ·exact h.elim
theorem HL {L M:List Sx.Obj} (hb:iI L M=false) {v:V} {r:List aC} (h:JB L M v r):∃j,2<=j/\ar r j= .arr (some tI) 1 (.it .i64 (ck L M))/\∀(κ:Nat->Option Nat) (i:Nat),κ j=some i->j7 κ v (.sa i):=by
 unfold JB at h;split at h
 ·split at h
  ·rw[hb]at h;simp at h
  ·exact h.elim
 ·split at h
  ·rename_i hj;split at h
   ·split at h
    ·split at h
     ·split at h
      ·rename_i hc;simp only[VK,VM,Nat.ble_eq]at hc;obtain⟨⟨rfl,rfl⟩,hj2⟩:=hc;obtain⟨_,rfl⟩:=h;exact⟨_,hj2,hj,fun κ i hi ρ2 ρ3 N N' hv hN hk=>⟨by simp only[den,(hv _ i hi).2.1,(hv _ i hi).2.2.2.1,(hv _ i hi).2.2.2.2.1],hN _ i hi hk⟩⟩
      ·exact h.elim
     ·exact h.elim
    ·exact h.elim
   ·exact h.elim
  ·exact h.elim
 ·exact h.elim
theorem Bo (L:List Sx.Obj) (hL:L.length<=1000):ak Tryz.prog 33 [.lp 0 0] [.ro (.blk tS (.ag [.sa 1])),.ro (.obs eS 2 L),.gen 1] (Bn L) (fun _ _=>False):=bx (inl:=ca) (ann:=(lr [(33,5,Vb [0,2,3,14,15] (fun g=> [(16,.it .i64 g)]) 3 tS eS (ka L) (jV L) (bU (an L)))])) (ae kN ay) (Lb L hL) (by kernel_rfl)
theorem vp:oM Tryz.prog 33 Iu:=by
 intro args res K KP h;unfold Iu at h;split at h
 ·split at h
  ·split at h
   ·exact ak.pure rfl rfl (Iz.mono (fun _ _ h=>cO h) fun _ _ h=>h) h
   ·exact h.elim
  ·rename_i k off;split at h
   ·rename_i hoff;have hoff:=VM.1 hoff;subst hoff;split at h
    ·rename_i t e L hr;split at h
     ·rename_i hc;simp only[VK,VM]at hc;obtain⟨rfl,rfl⟩:=hc;obtain⟨hL,h1,h2⟩:=h;have hk:=eK hr (by simp)
      have hlt:=aG hk;have hres:ew (kz 0 (dr [(k,false)])) res [(k,false)]= [.ro (.store tS eS L)]:=by simp[ew,hr,fW]
      cases hb:aR L with
      |true=>
       refine ak.Qx (pl:= [(k,false)]) (x:=gT) (args0:= [.lp 0 0]) (by simp[eA,cm.2 hk]) (by simpa[iU,dr,pG]using hlt) (by simp) (by simp[dS,eZ,kz,idxOf,dr]) rfl ?_ (h1 hb)
       rw[hres];exact(ak.dK (k:=0) rfl (Bo L hL)).mono (fun v r hv=>JO hb hv) fun _ _ h=>h
      |false=>
       refine ak.SC (pl:= [(k,false)]) (new:= .store tS eS L) (F:=fun j=> .lp j 0) (args0:= [.lp 0 0]) (by simp[eA,cm.2 hk]) (by simpa[iU,dr,pG]using hlt) (by simp) (by simp[dS,eZ,kz,idxOf,dr]) rfl (by simp) (fun κ=>rfl) ?_ (h2 hb)
       rw[hres];refine ak.dK (k:=0) rfl (ak.shut (Bo L hL) fun v r hv=>?_)
       obtain⟨j,r',hj,h1,h2,h3⟩:=Ge hb hv;rcases h1 with rfl|h1
       ·exact .inl ⟨j,hj,h2,h3⟩
       ·exact .inr ⟨j,r',h1,j,hj,h2,h3⟩
     ·exact h.elim
    ·exact h.elim
   ·exact h.elim
  ·exact h.elim
 ·exact h.elim
theorem NB (L:List Sx.Obj):
 Value.slice none 0 0=Value.slice none 0 0:=by
 rfl
theorem MT (L:List Sx.Obj):ak Tryz.prog 43 [gT,.lp 0 0] [.ro (.store tS eS L)] (nE R3) (fun _ _=>False):=bx (inl:=ca) (ann:=aV) (ae kN ay) (NB L) (by kernel_rfl)
theorem Mb (L M:List Sx.Obj) (hL:L.length<=1000):
 ((aR L||aR M|| !decide (bU (an L)=bU (an M)))=true->iI L M=true)/\
   ((aR L||aR M|| !decide (bU (an L)=bU (an M)))=false->
     true=true/\
      true=true/\
       ∀(r0:Loop),
        (∃g,jV L g/\bU (an L)=bU (an L)/\0=g/\L=L/\M=M/\r0=r0/\ []=en L M g)/\
         ∀(g:Int),
          jV L g->
           (decide (g<bU (an L))=true->
             (0<=g/\g< ↑(an L))/\
              g.toNat<an L/\
               g.toNat<an L/\
                (0<=g/\g< ↑(an M))/\
                 g.toNat<an M/\
                  g.toNat<an M/\
                   ((!z0 (aq L g.toNat free) (aq M g.toNat free))=true->
                     r0=r0/\
                      r0=r0/\
                       oW (an (en L M g)) 8/\
                        r0=r0/\
                         aP IntKind.i64 (g+1)/\
                          ∃g',
                           jV L g'/\
                            (bU (an L)-g').toNat<(bU (an L)-g).toNat/\
                             bU (an L)=bU (an L)/\
                              g+1=g'/\
                               L=L/\
                                M=M/\r0=r0/\gu (en L M g) g=en L M g')/\
                     ((!z0 (aq L g.toNat free) (aq M g.toNat free))=false->
                       aP IntKind.i64 (g+1)/\
                        ∃g',
                         jV L g'/\
                          (bU (an L)-g').toNat<(bU (an L)-g).toNat/\
                           bU (an L)=bU (an L)/\
                            g+1=g'/\L=L/\M=M/\r0=r0/\en L M g=en L M g'))/\
            (decide (g<bU (an L))=false->iI L M=false/\en L M g=ck L M)):=by
 refine⟨fun h=>h,fun h=>⟨rfl,rfl,fun r0=>?_⟩⟩
 have hlm:L.length=M.length:=by
  have h2:((aR L||aR M)|| !decide (bU (an L)=bU (an M)))=false:=h
  rw[Bool.or_eq_false_iff]at h2;have h3:=h2.2;rw[jF,jF]at h3;have h4:(L.length:Int)=(M.length:Int):=by simpa using h3
  omega
 have hn:=jF L;have hle:=pT L;have hle2:=pT M;refine⟨⟨0,⟨by omega,by omega⟩,rfl,rfl,rfl,rfl,rfl,rfl⟩,fun g hg=>⟨fun hlt=>?_,fun hge=>?_⟩⟩
 obtain⟨g0,g1⟩:=hg;have hlt:g<bU (an L):=VO hlt;rw[hn]at hlt⊢;have ht:=Aw (L:=L) (M:=M) (g:=g);have hr:aP IntKind.i64 (g+1):=by simp only[aP,cj];omega
 exact⟨⟨g0,by omega⟩,by omega,by omega,⟨g0,by omega⟩,by omega,by omega,fun h=>⟨rfl,rfl,Aj (by omega),rfl,hr,g+1,⟨by omega,by omega⟩,by omega,rfl,rfl,rfl,rfl,rfl,At g0 h⟩,fun h=>⟨hr,g+1,⟨by omega,by omega⟩,by omega,rfl,rfl,rfl,rfl,rfl,ED g0 h⟩⟩
 obtain⟨g0,g1⟩:=hg;have hge:¬g<bU (an L):=VN hge;rw[hn]at hge;exact⟨h,by unfold ck;rw[show g=(an L:Int) by omega]⟩
theorem EO (L M:List Sx.Obj) (hL:L.length<=1000):ak Tryz.prog 43 [.lp 0 0,.lp 1 0] [.ro (.blk tS (.ag [.sa 2])),.ro (.blk tS (.ag [.sa 4])),.ro (.obs eS 3 L),.gen 2,.ro (.obs eS 5 M),.gen 4] (JB L M) (fun _ _=>False):=bx (inl:=(fun f=>f==43||f==66)) (ann:=(lr [(6000+103,1,T2 [0,1,2,6] (fun g=> [(7,.it .i64 g)]) 6 103 tI 1 (fun g=> .it .i64 (en L M g)) (jV L) (bU (an L)))])) (ae kN ay) (Mb L M hL) (by kernel_rfl)
theorem Dv:oM Tryz.prog 43 Pf:=by
 intro args res K KP h;unfold Pf at h;split at h
 ·rename_i a b;split at h
  ·rename_i j off;split at h
   ·rename_i hoff;have hoff:=VM.1 hoff;subst hoff;split at h
    ·rename_i t e M hr;split at h
     ·rename_i hc;simp only[VK,VM]at hc;obtain⟨rfl,rfl⟩:=hc;have hj:=eK hr (by simp)
      have hjl:=aG hj;split at h
      ·split at h
       ·have hres:ew (kz 0 (dr [(j,false)])) res [(j,false)]= [.ro (.store tS eS M)]:=by simp[ew,hr,fW]
        refine ak.Qx (pl:= [(j,false)]) (x:=R3) (args0:= [gT,.lp 0 0]) (by simp[eA,cm.2 hj]) (by simpa[iU,dr,pG]using hjl) (by simp) (by simp[dS,eZ,kz,idxOf,dr,gT]) rfl ?_ h
        rw[hres];exact(MT M).mono (fun _ _ h=>cO h) fun _ _ h=>h
       ·exact h.elim
      ·rename_i k off';split at h
       ·rename_i hoff;simp only[VK,VM,Bool.not_eq_true',beq_eq_false_iff_ne]at hoff;obtain⟨rfl,hkj⟩:=hoff;split at h
        ·rename_i t' e' L hrk;split at h
         ·rename_i hc;simp only[VK,VM]at hc;obtain⟨rfl,rfl⟩:=hc;obtain⟨hL,h1,h2⟩:=h;have hk:=eK hrk (by simp)
          have hkl:=aG hk;have hres:ew (kz 0 (dr [(k,false),(j,false)])) res [(k,false),(j,false)]= [.ro (.store tS eS L),.ro (.store tS eS M)]:=by simp[ew,hr,hrk,fW]
          have hargs:dS (kz 0 (dr [(k,false),(j,false)])) [.lp k 0,.lp j 0]=some [.lp 0 0,.lp 1 0]:=by
           simp[dS,eZ,kz,idxOf,dr,hkj]
          have hka:eA res [(k,false),(j,false)]=true:=by simp[eA,cm.2 hk,cm.2 hj]
          have hoe:iU 0 res.length (dr [(k,false),(j,false)])=true:=by simpa[iU,dr,pG]using⟨⟨hkl,Ne.symm hkj⟩,hjl⟩
          cases hb:iI L M with
          |true=>
           refine ak.Qx (x:=R3) hka hoe (by simp) hargs rfl ?_ (h1 hb)
           rw[hres];exact(ak.dK (k:=0) rfl (ak.dK (k:=1) rfl (EO L M hL))).mono (fun v r hv=>NH hb hv) fun _ _ h=>h
          |false=>
           refine ak.SC (new:= .arr (some tI) 1 (.it .i64 (ck L M))) (F:=fun j=> .sa j) hka hoe (by simp) hargs rfl (by simp) (fun κ=>rfl) ?_ (h2 hb)
           rw[hres];exact(ak.dK (k:=0) rfl (ak.dK (k:=1) rfl (EO L M hL))).mono (fun v r hv=>HL hb hv) fun _ _ h=>h
         ·exact h.elim
        ·exact h.elim
       ·exact h.elim
      ·exact h.elim
     ·exact h.elim
    ·exact h.elim
   ·exact h.elim
  ·exact h.elim
 ·exact h.elim
end Go.Proofs.YtlblcfaclmpekaaGreat
