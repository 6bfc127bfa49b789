import Derived.Test.YtlblcfaclmpekaaGreatKS
set_option linter.unusedSimpArgs false
set_option linter.unusedVariables false
namespace Go.Proofs.YtlblcfaclmpekaaGreat
open Go.Sx
theorem OI {P:Program} {f:Nat} {g g':Ct} (h:dA P f g) (ha:∀res nid args q x new,g' res nid args=some (q,x,new)->∃x0,g res nid args=some (q,x0,new)/\(∀J,den J x=den J x0)/\∀K,ok K x0->ok K x):dA P f g':=by
 intro J fps res K w0 F0 w nid args q x new hH hargs hg hq hfr;obtain⟨x0,h1,h2,h3⟩:=ha res nid args q x new hg;obtain⟨c1,c2⟩:=h J fps res K w0 F0 w nid args q x0 new hH hargs h1 hq hfr;refine⟨c1.mono fun e w' ⟨v,he,hv⟩=>⟨v,he,?_⟩,c2⟩
 obtain⟨ρ',hgr,hv,hx⟩:=hv;exact⟨ρ',hgr,by rw[h2];exact hv,h3 _ hx⟩
theorem qW:dA Tryz.prog 42 D4:=by
 refine OI nR fun res nid args q x new h=>?_
 unfold D4 at h;split at h
 ·rename_i a;split at h
  ·rename_i o L hr;split at h
   ·simp only[UQ,UR]at h;obtain⟨rfl,rfl,rfl⟩:=h
    have hL:L= []:=by
     rcases uX hr with⟨_,rfl,_⟩|⟨k,h,_⟩
     ·rfl
     ·simp at h
    subst hL;exact⟨.bo (bc []),by unfold CQ QY;simp only[hr],fun J=>by simp[den,pJ],fun _ _=>trivial⟩
   ·simp only[UQ,UR]at h;obtain⟨rfl,rfl,rfl⟩:=h;exact⟨.bo (bc L),by unfold CQ QY;simp only[hr],fun J=>rfl,fun _ h=>h⟩
  ·simp at h
 ·simp at h
end Go.Proofs.YtlblcfaclmpekaaGreat
namespace Go.Proofs.YtlblcfaclmpekaaGreat
open Go.Sx
set_option maxRecDepth 100000
theorem IV:
 Value.pointer none=Value.pointer none:=by
 rfl
theorem IA:aj Tryz.prog 33 [kz] [] (qU kz) (fun _ _=>False):=bx (inl:=cw) (ann:=aQ) (ab qW aq) IV (by kernel_rfl)
theorem Kr (L:List Sx.Obj) (hL:L.length<=1000):
 (bc L=true->bc L=true)/\
  (bc L=false->
   (∃g,
     ni L g/\
      Value.pointer none=Value.pointer none/\dJ (ar L)=dJ (ar L)/\0=g/\L=L/\ []=jU L g)/\
    ∀(g:Int),
     ni L g->
      (decide (g<dJ (ar L))=true->
        (0<=g/\g< ↑(ar L))/\
         g.toNat<ar L/\
          g.toNat<ar L/\
           qz (ar (jU L g)) 8/\
            aL IntKind.i64 (g+1)/\
             ∃g',
              ni L g'/\
               (dJ (ar L)-g').toNat<(dJ (ar L)-g).toNat/\
                Value.pointer none=Value.pointer none/\
                 dJ (ar L)=dJ (ar L)/\
                  g+1=g'/\L=L/\gu (jU L g) (ai L g.toNat free)=jU L g')/\
       (decide (g<dJ (ar L))=false->bc L=false/\jU L g=L)):=by
 refine⟨fun h=>h,fun h=>⟨⟨0,⟨by omega,by omega⟩,rfl,rfl,rfl,rfl,rfl⟩,fun g hg=>⟨fun hlt=>?_,fun hge=>?_⟩⟩⟩
 ·obtain⟨g0,g1⟩:=hg;have hlt:g<dJ (ar L):=UX hlt;have hn:=pj L;have hle:=vV L;rw[hn]at hlt⊢;have ht:=Jj (L:=L) (g:=g);exact⟨⟨g0,by omega⟩,by omega,by omega,D7 (by omega),by simp only[aL,b7];omega,g+1,⟨by omega,by omega⟩,by omega,rfl,rfl,rfl,rfl,IZ g0 hlt⟩
 ·obtain⟨g0,g1⟩:=hg;have hge:¬g<dJ (ar L):=UW hge;rw[pj]at hge;exact⟨h,Kq (by omega)⟩
theorem KJ {L:List Sx.Obj} (hb:bc L=true) {v:V} {r:List aA} (h:Aa L v r):vh kz v []:=by
 unfold Aa at h;split at h
 ·split at h
  ·exact fun J K=>qK.refl _ _ _
  ·exact h.elim
 ·split at h
  ·split at h
   ·rw[hb]at h;simp at h
   ·exact h.elim
  ·exact h.elim
 ·exact h.elim
theorem Ga {L:List Sx.Obj} (hb:bc L=false) {v:V} {r:List aA} (h:Aa L v r):∃j r',1<=j/\(r'=r\/rq r j=some r')/\ak r' j= .store tS eS L/\∀(κ:Nat->Option Nat) (i:Nat),κ j=some i->ke κ v (.lp i 0):=by
 unfold Aa at h;split at h
 ·split at h
  ·rw[hb]at h;simp at h
  ·exact h.elim
 ·split at h
  ·rename_i j off _ t e M hst;split at h
   ·rename_i hc;simp only[US,UU,Nat.ble_eq]at hc;obtain⟨⟨⟨rfl,rfl⟩,rfl⟩,hj⟩:=hc;obtain⟨_,rfl⟩:=h;have ht:∀(κ:Nat->Option Nat) (i:Nat),κ j=some i->ke κ (.lp j 0) (.lp i 0):=fun κ i hi ρ2 ρ3 N N' hv hN hk=>⟨by simp only[den,(hv j i hi).1],hN j i hi hk⟩
    rcases As hst with h1|⟨r',h1,h2⟩
    ·exact⟨j,r,hj,.inl rfl,h1,ht⟩
    ·exact⟨j,r',hj,.inr h1,h2,ht⟩
   ·exact h.elim
  ·exact h.elim
 ·exact h.elim
theorem LC {L M:List Sx.Obj} (hb:iF L M=true) {v:V} {r:List aA} (h:HL L M v r):vh Rg v []:=by
 unfold HL at h;split at h
 ·split at h
  ·exact fun J K=>qK.refl _ _ _
  ·exact h.elim
 ·split at h
  ·split at h
   ·split at h
    ·split at h
     ·split at h
      ·rw[hb]at h;simp at h
      ·exact h.elim
     ·exact h.elim
    ·exact h.elim
   ·exact h.elim
  ·exact h.elim
 ·exact h.elim
theorem HJ {L M:List Sx.Obj} (hb:iF L M=false) {v:V} {r:List aA} (h:HL L M v r):∃j,2<=j/\ak r j= .arr (some tI) 1 (.it .i64 (cB L M))/\∀(κ:Nat->Option Nat) (i:Nat),κ j=some i->ke κ v (.sa i):=by
 unfold HL at h;split at h
 ·split at h
  ·rw[hb]at h;simp at h
  ·exact h.elim
 ·split at h
  ·rename_i hj;split at h
   ·split at h
    ·split at h
     ·split at h
      ·rename_i hc;simp only[US,UU,Nat.ble_eq]at hc;obtain⟨⟨rfl,rfl⟩,hj2⟩:=hc;obtain⟨_,rfl⟩:=h;exact⟨_,hj2,hj,fun κ i hi ρ2 ρ3 N N' hv hN hk=>⟨by simp only[den,(hv _ i hi).2.1,(hv _ i hi).2.2.2.1,(hv _ i hi).2.2.2.2.1],hN _ i hi hk⟩⟩
      ·exact h.elim
     ·exact h.elim
    ·exact h.elim
   ·exact h.elim
  ·exact h.elim
 ·exact h.elim
theorem Bh (L:List Sx.Obj) (hL:L.length<=1000):aj Tryz.prog 33 [.lp 0 0] [.ro (.blk tS (.ag [.sa 1])),.ro (.obs eS 2 L),.gen 1] (Aa L) (fun _ _=>False):=bx (inl:=cw) (ann:=(kW [(33,5,Uh [0,2,3,14,15] (fun g=> [(16,.it .i64 g)]) 3 tS eS (jU L) (ni L) (dJ (ar L)))])) (ab qW aq) (Kr L hL) (by kernel_rfl)
theorem se:p5 Tryz.prog 33 Is:=by
 intro args res K KP h;unfold Is at h;split at h
 ·split at h
  ·split at h
   ·exact aj.pure rfl rfl (IA.mono (fun _ _ h=>dE h) fun _ _ h=>h) h
   ·exact h.elim
  ·rename_i k off;split at h
   ·rename_i hoff;have hoff:=UU.1 hoff;subst hoff;split at h
    ·rename_i t e L hr;split at h
     ·rename_i hc;simp only[US,UU]at hc;obtain⟨rfl,rfl⟩:=hc;obtain⟨hL,h1,h2⟩:=h;have hk:=fa hr (by simp)
      have hlt:=aG hk;have hres:eC (km 0 (dt [(k,false)])) res [(k,false)]= [.ro (.store tS eS L)]:=by simp[eC,hr,gj]
      cases hb:bc L with
      |true=>
       refine aj.P3 (pl:= [(k,false)]) (x:=kz) (args0:= [.lp 0 0]) (by simp[eA,cW.2 hk]) (by simpa[jm,dt,qE]using hlt) (by simp) (by simp[ef,ff,km,idxOf,dt]) rfl ?_ (h1 hb)
       rw[hres];exact(aj.eg (k:=0) rfl (Bh L hL)).mono (fun v r hv=>KJ hb hv) fun _ _ h=>h
      |false=>
       refine aj.R6 (pl:= [(k,false)]) (new:= .store tS eS L) (F:=fun j=> .lp j 0) (args0:= [.lp 0 0]) (by simp[eA,cW.2 hk]) (by simpa[jm,dt,qE]using hlt) (by simp) (by simp[ef,ff,km,idxOf,dt]) rfl (by simp) (fun κ=>rfl) ?_ (h2 hb)
       rw[hres];refine aj.eg (k:=0) rfl (aj.shut (Bh L hL) fun v r hv=>?_)
       obtain⟨j,r',hj,h1,h2,h3⟩:=Ga hb hv;rcases h1 with rfl|h1
       ·exact .inl ⟨j,hj,h2,h3⟩
       ·exact .inr ⟨j,r',h1,j,hj,h2,h3⟩
     ·exact h.elim
    ·exact h.elim
   ·exact h.elim
  ·exact h.elim
 ·exact h.elim
theorem LN (L:List Sx.Obj):
 Value.slice none 0 0=Value.slice none 0 0:=by
 rfl
theorem Mj (L:List Sx.Obj):aj Tryz.prog 43 [kz,.lp 0 0] [.ro (.store tS eS L)] (qU Rg) (fun _ _=>False):=bx (inl:=cw) (ann:=aQ) (ab qW aq) (LN L) (by kernel_rfl)
theorem Mm (L M:List Sx.Obj) (hL:L.length<=1000):
 ((bc L||bc M|| !decide (dJ (ar L)=dJ (ar M)))=true->iF L M=true)/\
   ((bc L||bc M|| !decide (dJ (ar L)=dJ (ar M)))=false->
     true=true/\
      true=true/\
       ∀(r0:Loop),
        (∃g,ni L g/\dJ (ar L)=dJ (ar L)/\0=g/\L=L/\M=M/\r0=r0/\ []=gf L M g)/\
         ∀(g:Int),
          ni L g->
           (decide (g<dJ (ar L))=true->
             (0<=g/\g< ↑(ar L))/\
              g.toNat<ar L/\
               g.toNat<ar L/\
                (0<=g/\g< ↑(ar M))/\
                 g.toNat<ar M/\
                  g.toNat<ar M/\
                   ((!B7 (ai L g.toNat free) (ai M g.toNat free))=true->
                     r0=r0/\
                      r0=r0/\
                       qz (ar (gf L M g)) 8/\
                        r0=r0/\
                         aL IntKind.i64 (g+1)/\
                          ∃g',
                           ni L g'/\
                            (dJ (ar L)-g').toNat<(dJ (ar L)-g).toNat/\
                             dJ (ar L)=dJ (ar L)/\
                              g+1=g'/\
                               L=L/\
                                M=M/\r0=r0/\gu (gf L M g) g=gf L M g')/\
                     ((!B7 (ai L g.toNat free) (ai M g.toNat free))=false->
                       aL IntKind.i64 (g+1)/\
                        ∃g',
                         ni L g'/\
                          (dJ (ar L)-g').toNat<(dJ (ar L)-g).toNat/\
                           dJ (ar L)=dJ (ar L)/\
                            g+1=g'/\L=L/\M=M/\r0=r0/\gf L M g=gf L M g'))/\
            (decide (g<dJ (ar L))=false->iF L M=false/\gf L M g=cB L M)):=by
 refine⟨fun h=>h,fun h=>⟨rfl,rfl,fun r0=>?_⟩⟩
 have hlm:L.length=M.length:=by
  have h2:((bc L||bc M)|| !decide (dJ (ar L)=dJ (ar M)))=false:=h
  rw[Bool.or_eq_false_iff]at h2;have h3:=h2.2;rw[pj,pj]at h3;have h4:(L.length:Int)=(M.length:Int):=by simpa using h3
  omega
 have hn:=pj L;have hle:=vV L;have hle2:=vV M;refine⟨⟨0,⟨by omega,by omega⟩,rfl,rfl,rfl,rfl,rfl,rfl⟩,fun g hg=>⟨fun hlt=>?_,fun hge=>?_⟩⟩
 obtain⟨g0,g1⟩:=hg;have hlt:g<dJ (ar L):=UX hlt;rw[hn]at hlt⊢;have ht:=JF (L:=L) (M:=M) (g:=g);have hr:aL IntKind.i64 (g+1):=by simp only[aL,b7];omega
 exact⟨⟨g0,by omega⟩,by omega,by omega,⟨g0,by omega⟩,by omega,by omega,fun h=>⟨rfl,rfl,D7 (by omega),rfl,hr,g+1,⟨by omega,by omega⟩,by omega,rfl,rfl,rfl,rfl,rfl,G8 g0 h⟩,fun h=>⟨hr,g+1,⟨by omega,by omega⟩,by omega,rfl,rfl,rfl,rfl,rfl,Mf g0 h⟩⟩
 obtain⟨g0,g1⟩:=hg;have hge:¬g<dJ (ar L):=UW hge;rw[hn]at hge;exact⟨h,by unfold cB;rw[show g=(ar L:Int) by omega]⟩
theorem Ec (L M:List Sx.Obj) (hL:L.length<=1000):aj Tryz.prog 43 [.lp 0 0,.lp 1 0] [.ro (.blk tS (.ag [.sa 2])),.ro (.blk tS (.ag [.sa 4])),.ro (.obs eS 3 L),.gen 2,.ro (.obs eS 5 M),.gen 4] (HL L M) (fun _ _=>False):=bx (inl:=(fun f=>f==43||f==66)) (ann:=(kW [(6000+103,1,Ue [0,1,2,6] (fun g=> [(7,.it .i64 g)]) 6 103 tI 1 (fun g=> .it .i64 (gf L M g)) (ni L) (dJ (ar L)))])) (ab qW aq) (Mm L M hL) (by kernel_rfl)
theorem CI:p5 Tryz.prog 43 N4:=by
 intro args res K KP h;unfold N4 at h;split at h
 ·rename_i a b;split at h
  ·rename_i j off;split at h
   ·rename_i hoff;have hoff:=UU.1 hoff;subst hoff;split at h
    ·rename_i t e M hr;split at h
     ·rename_i hc;simp only[US,UU]at hc;obtain⟨rfl,rfl⟩:=hc;have hj:=fa hr (by simp)
      have hjl:=aG hj;split at h
      ·split at h
       ·have hres:eC (km 0 (dt [(j,false)])) res [(j,false)]= [.ro (.store tS eS M)]:=by simp[eC,hr,gj]
        refine aj.P3 (pl:= [(j,false)]) (x:=Rg) (args0:= [kz,.lp 0 0]) (by simp[eA,cW.2 hj]) (by simpa[jm,dt,qE]using hjl) (by simp) (by simp[ef,ff,km,idxOf,dt,kz]) rfl ?_ h
        rw[hres];exact(Mj M).mono (fun _ _ h=>dE h) fun _ _ h=>h
       ·exact h.elim
      ·rename_i k off';split at h
       ·rename_i hoff;simp only[US,UU,Bool.not_eq_true',beq_eq_false_iff_ne]at hoff;obtain⟨rfl,hkj⟩:=hoff;split at h
        ·rename_i t' e' L hrk;split at h
         ·rename_i hc;simp only[US,UU]at hc;obtain⟨rfl,rfl⟩:=hc;obtain⟨hL,h1,h2⟩:=h;have hk:=fa hrk (by simp)
          have hkl:=aG hk;have hres:eC (km 0 (dt [(k,false),(j,false)])) res [(k,false),(j,false)]= [.ro (.store tS eS L),.ro (.store tS eS M)]:=by simp[eC,hr,hrk,gj]
          have hargs:ef (km 0 (dt [(k,false),(j,false)])) [.lp k 0,.lp j 0]=some [.lp 0 0,.lp 1 0]:=by
           simp[ef,ff,km,idxOf,dt,hkj]
          have hka:eA res [(k,false),(j,false)]=true:=by simp[eA,cW.2 hk,cW.2 hj]
          have hoe:jm 0 res.length (dt [(k,false),(j,false)])=true:=by simpa[jm,dt,qE]using⟨⟨hkl,Ne.symm hkj⟩,hjl⟩
          cases hb:iF L M with
          |true=>
           refine aj.P3 (x:=Rg) hka hoe (by simp) hargs rfl ?_ (h1 hb)
           rw[hres];exact(aj.eg (k:=0) rfl (aj.eg (k:=1) rfl (Ec L M hL))).mono (fun v r hv=>LC hb hv) fun _ _ h=>h
          |false=>
           refine aj.R6 (new:= .arr (some tI) 1 (.it .i64 (cB L M))) (F:=fun j=> .sa j) hka hoe (by simp) hargs rfl (by simp) (fun κ=>rfl) ?_ (h2 hb)
           rw[hres];exact(aj.eg (k:=0) rfl (aj.eg (k:=1) rfl (Ec L M hL))).mono (fun v r hv=>HJ hb hv) fun _ _ h=>h
         ·exact h.elim
        ·exact h.elim
       ·exact h.elim
      ·exact h.elim
     ·exact h.elim
    ·exact h.elim
   ·exact h.elim
  ·exact h.elim
 ·exact h.elim
end Go.Proofs.YtlblcfaclmpekaaGreat
