import Derived.Test.YtghpaegglbbocaaGreatKS
set_option linter.unusedSimpArgs false
set_option linter.unusedVariables false
namespace Go.Proofs.YtghpaegglbbocaaGreat
open Go.Sx
theorem Td {P:Program} {f:Nat} {g g':Ct} (h:cj P f g) (ha:∀res nid args q x new,g' res nid args=some (q,x,new)->∃x0,g res nid args=some (q,x0,new)/\(∀J,den J x=den J x0)/\∀K,ok K x0->ok K x):cj P f g':=by
 intro J fps res K w0 F0 w nid args q x new hH hargs hg hq hfr;obtain⟨x0,h1,h2,h3⟩:=ha res nid args q x new hg;obtain⟨c1,c2⟩:=h J fps res K w0 F0 w nid args q x0 new hH hargs h1 hq hfr;refine⟨c1.mono fun e w' ⟨v,he,hv⟩=>⟨v,he,?_⟩,c2⟩
 obtain⟨ρ',hgr,hv,hx⟩:=hv;exact⟨ρ',hgr,by rw[h2];exact hv,h3 _ hx⟩
theorem tx:cj Tryz.prog 34 EM:=by
 refine Td oC fun res nid args q x new h=>?_
 unfold EM at h;split at h
 ·rename_i a;split at h
  ·rename_i o L hr;split at h
   ·simp only[XI,XJ]at h;obtain⟨rfl,rfl,rfl⟩:=h
    have hL:L= []:=by
     rcases sC hr with⟨_,rfl,_⟩|⟨k,h,_⟩
     ·rfl
     ·simp at h
    subst hL;exact⟨.bo (bC []),by unfold Eb Tf;simp only[hr],fun J=>by simp[den,qK],fun _ _=>trivial⟩
   ·simp only[XI,XJ]at h;obtain⟨rfl,rfl,rfl⟩:=h;exact⟨.bo (bC L),by unfold Eb Tf;simp only[hr],fun J=>rfl,fun _ h=>h⟩
  ·simp at h
 ·simp at h
end Go.Proofs.YtghpaegglbbocaaGreat
namespace Go.Proofs.YtghpaegglbbocaaGreat
open Go.Sx
set_option maxRecDepth 100000
theorem IC:
 Value.pointer none=Value.pointer none:=by
 rfl
theorem K2:ai Tryz.prog 157 [k9] [] (nz k9) (fun _ _=>False):=aW (inl:=bn) (ann:=aP) (ae tx an) IC (by kernel_rfl)
theorem K9 (L:List Sx.Obj) (hL:L.length<=1000):
 (bC L=true->bC L=true)/\
  (bC L=false->
   (∃g,
     ou L g/\
      Value.pointer none=Value.pointer none/\cw (aj L)=cw (aj L)/\0=g/\L=L/\ []=kM L g)/\
    ∀(g:Int),
     ou L g->
      (decide (g<cw (aj L))=true->
        (0<=g/\g< ↑(aj L))/\
         g.toNat<aj L/\
          g.toNat<aj L/\
           vB (aj (kM L g)) 8/\
            aI IntKind.i64 (g+1)/\
             ∃g',
              ou L g'/\
               (cw (aj L)-g').toNat<(cw (aj L)-g).toNat/\
                Value.pointer none=Value.pointer none/\
                 cw (aj L)=cw (aj L)/\
                  g+1=g'/\L=L/\iJ (kM L g) (ah L g.toNat free)=kM L g')/\
       (decide (g<cw (aj L))=false->bC L=false/\kM L g=L)):=by
 refine⟨fun h=>h,fun h=>⟨⟨0,⟨by omega,by omega⟩,rfl,rfl,rfl,rfl,rfl⟩,fun g hg=>⟨fun hlt=>?_,fun hge=>?_⟩⟩⟩
 ·obtain⟨g0,g1⟩:=hg;have hlt:g<cw (aj L):=XO hlt;have hn:=gk L;have hle:=lf L;rw[hn]at hlt⊢;have ht:=J2 (L:=L) (g:=g);exact⟨⟨g0,by omega⟩,by omega,by omega,Ew (by omega),by simp only[aI,cg];omega,g+1,⟨by omega,by omega⟩,by omega,rfl,rfl,rfl,rfl,KF g0 hlt⟩
 ·obtain⟨g0,g1⟩:=hg;have hge:¬g<cw (aj L):=XN hge;rw[gk]at hge;exact⟨h,KI (by omega)⟩
theorem ID {L:List Sx.Obj} (hb:bC L=true) {v:V} {r:List aH} (h:Cw L v r):yt k9 v []:=by
 unfold Cw at h;split at h
 ·split at h
  ·exact fun J K=>pG.refl _ _ _
  ·exact h.elim
 ·split at h
  ·split at h
   ·rw[hb]at h;simp at h
   ·exact h.elim
  ·exact h.elim
 ·exact h.elim
theorem F6 {L:List Sx.Obj} (hb:bC L=false) {v:V} {r:List aH} (h:Cw L v r):∃j r',1<=j/\(r'=r\/sf r j=some r')/\ay r' j= .store tS eS L/\∀(κ:Nat->Option Nat) (i:Nat),κ j=some i->iC κ v (.lp i 0):=by
 unfold Cw at h;split at h
 ·split at h
  ·rw[hb]at h;simp at h
  ·exact h.elim
 ·split at h
  ·rename_i j off _ t e M hst;split at h
   ·rename_i hc;simp only[XK,XM,Nat.ble_eq]at hc;obtain⟨⟨⟨rfl,rfl⟩,rfl⟩,hj⟩:=hc;obtain⟨_,rfl⟩:=h;have ht:∀(κ:Nat->Option Nat) (i:Nat),κ j=some i->iC κ (.lp j 0) (.lp i 0):=fun κ i hi ρ2 ρ3 N N' hv hN hk=>⟨by simp only[den,(hv j i hi).1],hN j i hi hk⟩
    rcases B3 hst with h1|⟨r',h1,h2⟩
    ·exact⟨j,r,hj,.inl rfl,h1,ht⟩
    ·exact⟨j,r',hj,.inr h1,h2,ht⟩
   ·exact h.elim
  ·exact h.elim
 ·exact h.elim
theorem QK {L M:List Sx.Obj} (hb:iW L M=true) {v:V} {r:List aH} (h:HS L M v r):yt Ui v []:=by
 unfold HS at h;split at h
 ·split at h
  ·exact fun J K=>pG.refl _ _ _
  ·exact h.elim
 ·split at h
  ·split at h
   ·split at h
    ·split at h
     ·split at h
      ·rw[hb]at h;simp at h
      ·exact h.elim
     ·exact h.elim
    ·exact h.elim
   ·exact h.elim
  ·exact h.elim
 ·exact h.elim
theorem J8 {L M:List Sx.Obj} (hb:iW L M=false) {v:V} {r:List aH} (h:HS L M v r):∃j,2<=j/\ay r j= .arr (some tI) 1 (.it .i64 (dg L M))/\∀(κ:Nat->Option Nat) (i:Nat),κ j=some i->iC κ v (.sa i):=by
 unfold HS at h;split at h
 ·split at h
  ·rw[hb]at h;simp at h
  ·exact h.elim
 ·split at h
  ·rename_i hj;split at h
   ·split at h
    ·split at h
     ·split at h
      ·rename_i hc;simp only[XK,XM,Nat.ble_eq]at hc;obtain⟨⟨rfl,rfl⟩,hj2⟩:=hc;obtain⟨_,rfl⟩:=h;exact⟨_,hj2,hj,fun κ i hi ρ2 ρ3 N N' hv hN hk=>⟨by simp only[den,(hv _ i hi).2.1,(hv _ i hi).2.2.2.1,(hv _ i hi).2.2.2.2.1],hN _ i hi hk⟩⟩
      ·exact h.elim
     ·exact h.elim
    ·exact h.elim
   ·exact h.elim
  ·exact h.elim
 ·exact h.elim
theorem CS (L:List Sx.Obj) (hL:L.length<=1000):ai Tryz.prog 157 [.lp 0 0] [.ro (.blk tS (.ag [.sa 1])),.ro (.obs eS 2 L),.gen 1] (Cw L) (fun _ _=>False):=aW (inl:=bn) (ann:=(jC [(157,5,Xj [0,2,3,14,15] (fun g=> [(16,.it .i64 g)]) 3 tS eS (kM L) (ou L) (cw (aj L)))])) (ae tx an) (K9 L hL) (by kernel_rfl)
theorem z8:ll Tryz.prog 157 Lj:=by
 intro args res K KP h;unfold Lj at h;split at h
 ·split at h
  ·split at h
   ·exact ai.pure rfl rfl (K2.mono (fun _ _ h=>dt h) fun _ _ h=>h) h
   ·exact h.elim
  ·rename_i k off;split at h
   ·rename_i hoff;have hoff:=XM.1 hoff;subst hoff;split at h
    ·rename_i t e L hr;split at h
     ·rename_i hc;simp only[XK,XM]at hc;obtain⟨rfl,rfl⟩:=hc;obtain⟨hL,h1,h2⟩:=h;have hk:=dV hr (by simp)
      have hlt:=aN hk;have hres:ez (kC 0 (dA [(k,false)])) res [(k,false)]= [.ro (.store tS eS L)]:=by simp[ez,hr,fW]
      cases hb:bC L with
      |true=>
       refine ai.TU (pl:= [(k,false)]) (x:=k9) (args0:= [.lp 0 0]) (by simp[eA,cV.2 hk]) (by simpa[gN,dA,na]using hlt) (by simp) (by simp[eT,fk,kC,idxOf,dA]) rfl ?_ (h1 hb)
       rw[hres];exact(ai.eR (k:=0) rfl (CS L hL)).mono (fun v r hv=>ID hb hv) fun _ _ h=>h
      |false=>
       refine ai.UM (pl:= [(k,false)]) (new:= .store tS eS L) (F:=fun j=> .lp j 0) (args0:= [.lp 0 0]) (by simp[eA,cV.2 hk]) (by simpa[gN,dA,na]using hlt) (by simp) (by simp[eT,fk,kC,idxOf,dA]) rfl (by simp) (fun κ=>rfl) ?_ (h2 hb)
       rw[hres];refine ai.eR (k:=0) rfl (ai.shut (CS L hL) fun v r hv=>?_)
       obtain⟨j,r',hj,h1,h2,h3⟩:=F6 hb hv;rcases h1 with rfl|h1
       ·exact .inl ⟨j,hj,h2,h3⟩
       ·exact .inr ⟨j,r',h1,j,hj,h2,h3⟩
     ·exact h.elim
    ·exact h.elim
   ·exact h.elim
  ·exact h.elim
 ·exact h.elim
theorem N6 (L:List Sx.Obj):
 Value.slice none 0 0=Value.slice none 0 0:=by
 rfl
theorem OD (L:List Sx.Obj):ai Tryz.prog 164 [k9,.lp 0 0] [.ro (.store tS eS L)] (nz Ui) (fun _ _=>False):=aW (inl:=bn) (ann:=aP) (ae tx an) (N6 L) (by kernel_rfl)
theorem NL (L M:List Sx.Obj) (hL:L.length<=1000):
 ((bC L||bC M|| !decide (cw (aj L)=cw (aj M)))=true->iW L M=true)/\
   ((bC L||bC M|| !decide (cw (aj L)=cw (aj M)))=false->
     true=true/\
      true=true/\
       ∀(r0:Loop),
        (∃g,ou L g/\cw (aj L)=cw (aj L)/\0=g/\L=L/\M=M/\r0=r0/\ []=gE L M g)/\
         ∀(g:Int),
          ou L g->
           (decide (g<cw (aj L))=true->
             (0<=g/\g< ↑(aj L))/\
              g.toNat<aj L/\
               g.toNat<aj L/\
                (0<=g/\g< ↑(aj M))/\
                 g.toNat<aj M/\
                  g.toNat<aj M/\
                   ((!BH (ah L g.toNat free) (ah M g.toNat free))=true->
                     r0=r0/\
                      r0=r0/\
                       vB (aj (gE L M g)) 8/\
                        r0=r0/\
                         aI IntKind.i64 (g+1)/\
                          ∃g',
                           ou L g'/\
                            (cw (aj L)-g').toNat<(cw (aj L)-g).toNat/\
                             cw (aj L)=cw (aj L)/\
                              g+1=g'/\
                               L=L/\
                                M=M/\r0=r0/\iJ (gE L M g) g=gE L M g')/\
                     ((!BH (ah L g.toNat free) (ah M g.toNat free))=false->
                       aI IntKind.i64 (g+1)/\
                        ∃g',
                         ou L g'/\
                          (cw (aj L)-g').toNat<(cw (aj L)-g).toNat/\
                           cw (aj L)=cw (aj L)/\
                            g+1=g'/\L=L/\M=M/\r0=r0/\gE L M g=gE L M g'))/\
            (decide (g<cw (aj L))=false->iW L M=false/\gE L M g=dg L M)):=by
 refine⟨fun h=>h,fun h=>⟨rfl,rfl,fun r0=>?_⟩⟩
 have hlm:L.length=M.length:=by
  have h2:((bC L||bC M)|| !decide (cw (aj L)=cw (aj M)))=false:=h
  rw[Bool.or_eq_false_iff]at h2;have h3:=h2.2;rw[gk,gk]at h3;have h4:(L.length:Int)=(M.length:Int):=by simpa using h3
  omega
 have hn:=gk L;have hle:=lf L;have hle2:=lf M;refine⟨⟨0,⟨by omega,by omega⟩,rfl,rfl,rfl,rfl,rfl,rfl⟩,fun g hg=>⟨fun hlt=>?_,fun hge=>?_⟩⟩
 obtain⟨g0,g1⟩:=hg;have hlt:g<cw (aj L):=XO hlt;rw[hn]at hlt⊢;have ht:=Js (L:=L) (M:=M) (g:=g);have hr:aI IntKind.i64 (g+1):=by simp only[aI,cg];omega
 exact⟨⟨g0,by omega⟩,by omega,by omega,⟨g0,by omega⟩,by omega,by omega,fun h=>⟨rfl,rfl,Ew (by omega),rfl,hr,g+1,⟨by omega,by omega⟩,by omega,rfl,rfl,rfl,rfl,rfl,JO g0 h⟩,fun h=>⟨hr,g+1,⟨by omega,by omega⟩,by omega,rfl,rfl,rfl,rfl,rfl,Ox g0 h⟩⟩
 obtain⟨g0,g1⟩:=hg;have hge:¬g<cw (aj L):=XN hge;rw[hn]at hge;exact⟨h,by unfold dg;rw[show g=(aj L:Int) by omega]⟩
theorem EV (L M:List Sx.Obj) (hL:L.length<=1000):ai Tryz.prog 164 [.lp 0 0,.lp 1 0] [.ro (.blk tS (.ag [.sa 2])),.ro (.blk tS (.ag [.sa 4])),.ro (.obs eS 3 L),.gen 2,.ro (.obs eS 5 M),.gen 4] (HS L M) (fun _ _=>False):=aW (inl:=(fun f=>f==164||f==187)) (ann:=(jC [(6000+194,1,XD [0,1,2,6] (fun g=> [(7,.it .i64 g)]) 6 197 tI 1 (fun g=> .it .i64 (gE L M g)) (ou L) (cw (aj L)))])) (ae tx an) (NL L M hL) (by kernel_rfl)
theorem Er:ll Tryz.prog 164 Rp:=by
 intro args res K KP h;unfold Rp at h;split at h
 ·rename_i a b;split at h
  ·rename_i j off;split at h
   ·rename_i hoff;have hoff:=XM.1 hoff;subst hoff;split at h
    ·rename_i t e M hr;split at h
     ·rename_i hc;simp only[XK,XM]at hc;obtain⟨rfl,rfl⟩:=hc;have hj:=dV hr (by simp)
      have hjl:=aN hj;split at h
      ·split at h
       ·have hres:ez (kC 0 (dA [(j,false)])) res [(j,false)]= [.ro (.store tS eS M)]:=by simp[ez,hr,fW]
        refine ai.TU (pl:= [(j,false)]) (x:=Ui) (args0:= [k9,.lp 0 0]) (by simp[eA,cV.2 hj]) (by simpa[gN,dA,na]using hjl) (by simp) (by simp[eT,fk,kC,idxOf,dA,k9]) rfl ?_ h
        rw[hres];exact(OD M).mono (fun _ _ h=>dt h) fun _ _ h=>h
       ·exact h.elim
      ·rename_i k off';split at h
       ·rename_i hoff;simp only[XK,XM,Bool.not_eq_true',beq_eq_false_iff_ne]at hoff;obtain⟨rfl,hkj⟩:=hoff;split at h
        ·rename_i t' e' L hrk;split at h
         ·rename_i hc;simp only[XK,XM]at hc;obtain⟨rfl,rfl⟩:=hc;obtain⟨hL,h1,h2⟩:=h;have hk:=dV hrk (by simp)
          have hkl:=aN hk;have hres:ez (kC 0 (dA [(k,false),(j,false)])) res [(k,false),(j,false)]= [.ro (.store tS eS L),.ro (.store tS eS M)]:=by simp[ez,hr,hrk,fW]
          have hargs:eT (kC 0 (dA [(k,false),(j,false)])) [.lp k 0,.lp j 0]=some [.lp 0 0,.lp 1 0]:=by
           simp[eT,fk,kC,idxOf,dA,hkj]
          have hka:eA res [(k,false),(j,false)]=true:=by simp[eA,cV.2 hk,cV.2 hj]
          have hoe:gN 0 res.length (dA [(k,false),(j,false)])=true:=by simpa[gN,dA,na]using⟨⟨hkl,Ne.symm hkj⟩,hjl⟩
          cases hb:iW L M with
          |true=>
           refine ai.TU (x:=Ui) hka hoe (by simp) hargs rfl ?_ (h1 hb)
           rw[hres];exact(ai.eR (k:=0) rfl (ai.eR (k:=1) rfl (EV L M hL))).mono (fun v r hv=>QK hb hv) fun _ _ h=>h
          |false=>
           refine ai.UM (new:= .arr (some tI) 1 (.it .i64 (dg L M))) (F:=fun j=> .sa j) hka hoe (by simp) hargs rfl (by simp) (fun κ=>rfl) ?_ (h2 hb)
           rw[hres];exact(ai.eR (k:=0) rfl (ai.eR (k:=1) rfl (EV L M hL))).mono (fun v r hv=>J8 hb hv) fun _ _ h=>h
         ·exact h.elim
        ·exact h.elim
       ·exact h.elim
      ·exact h.elim
     ·exact h.elim
    ·exact h.elim
   ·exact h.elim
  ·exact h.elim
 ·exact h.elim
end Go.Proofs.YtghpaegglbbocaaGreat
