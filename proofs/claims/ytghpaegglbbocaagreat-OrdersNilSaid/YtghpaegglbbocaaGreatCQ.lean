import Derived.Test.YtghpaegglbbocaaGreatKS
set_option linter.unusedSimpArgs false
set_option linter.unusedVariables false
namespace Go.Proofs.YtghpaegglbbocaaGreat
open Go.Sx
theorem Tl {P:Program} {f:Nat} {g g':Ct} (h:ck P f g) (ha:∀res nid args q x new,g' res nid args=some (q,x,new)->∃x0,g res nid args=some (q,x0,new)/\(∀J,den J x=den J x0)/\∀K,ok K x0->ok K x):ck P f g':=by
 intro J fps res K w0 F0 w nid args q x new hH hargs hg hq hfr;obtain⟨x0,h1,h2,h3⟩:=ha res nid args q x new hg;obtain⟨c1,c2⟩:=h J fps res K w0 F0 w nid args q x0 new hH hargs h1 hq hfr;refine⟨c1.mono fun e w' ⟨v,he,hv⟩=>⟨v,he,?_⟩,c2⟩
 obtain⟨ρ',hgr,hv,hx⟩:=hv;exact⟨ρ',hgr,by rw[h2];exact hv,h3 _ hx⟩
theorem tU:ck Tryz.prog 34 Gd:=by
 refine Tl oG fun res nid args q x new h=>?_
 unfold Gd at h;split at h
 ·rename_i a;split at h
  ·rename_i o L hr;split at h
   ·simp only[Yh,Yi]at h;obtain⟨rfl,rfl,rfl⟩:=h
    have hL:L= []:=by
     rcases uq hr with⟨_,rfl,_⟩|⟨k,h,_⟩
     ·rfl
     ·simp at h
    subst hL;exact⟨.bo (bB []),by unfold Es Ug;simp only[hr],fun J=>by simp[den,qG],fun _ _=>trivial⟩
   ·simp only[Yh,Yi]at h;obtain⟨rfl,rfl,rfl⟩:=h;exact⟨.bo (bB L),by unfold Es Ug;simp only[hr],fun J=>rfl,fun _ h=>h⟩
  ·simp at h
 ·simp at h
end Go.Proofs.YtghpaegglbbocaaGreat
namespace Go.Proofs.YtghpaegglbbocaaGreat
open Go.Sx
set_option maxRecDepth 100000
theorem Kj:
 Value.pointer none=Value.pointer none:=by
 rfl
theorem MR:ai Tryz.prog 157 [lh] [] (mn lh) (fun _ _=>False):=aV (inl:=bp) (ann:=aP) (ab tU ak) Kj (by kernel_rfl)
theorem MT (L:List Sx.Obj) (hL:L.length<=1000):
 (bB L=true->bB L=true)/\
  (bB L=false->
   (∃g,
     oP L g/\
      Value.pointer none=Value.pointer none/\b9 (aj L)=b9 (aj L)/\0=g/\L=L/\ []=kN L g)/\
    ∀(g:Int),
     oP L g->
      (decide (g<b9 (aj L))=true->
        (0<=g/\g< ↑(aj L))/\
         g.toNat<aj L/\
          g.toNat<aj L/\
           vQ (aj (kN L g)) 8/\
            aG IntKind.i64 (g+1)/\
             ∃g',
              oP L g'/\
               (b9 (aj L)-g').toNat<(b9 (aj L)-g).toNat/\
                Value.pointer none=Value.pointer none/\
                 b9 (aj L)=b9 (aj L)/\
                  g+1=g'/\L=L/\iM (kN L g) (ah L g.toNat free)=kN L g')/\
       (decide (g<b9 (aj L))=false->bB L=false/\kN L g=L)):=by
 refine⟨fun h=>h,fun h=>⟨⟨0,⟨by omega,by omega⟩,rfl,rfl,rfl,rfl,rfl⟩,fun g hg=>⟨fun hlt=>?_,fun hge=>?_⟩⟩⟩
 ·obtain⟨g0,g1⟩:=hg;have hlt:g<b9 (aj L):=Yn hlt;have hn:=gu L;have hle:=lq L;rw[hn]at hlt⊢;have ht:=Mz (L:=L) (g:=g);exact⟨⟨g0,by omega⟩,by omega,by omega,Ge (by omega),by simp only[aG,bY];omega,g+1,⟨by omega,by omega⟩,by omega,rfl,rfl,rfl,rfl,Kv g0 hlt⟩
 ·obtain⟨g0,g1⟩:=hg;have hge:¬g<b9 (aj L):=Ym hge;rw[gu]at hge;exact⟨h,Ma (by omega)⟩
theorem Nd {L:List Sx.Obj} (hb:bB L=true) {v:V} {r:List aI} (h:BZ L v r):yU lh v []:=by
 unfold BZ at h;split at h
 ·split at h
  ·exact fun J K=>pX.refl _ _ _
  ·exact h.elim
 ·split at h
  ·split at h
   ·rw[hb]at h;simp at h
   ·exact h.elim
  ·exact h.elim
 ·exact h.elim
theorem GF {L:List Sx.Obj} (hb:bB L=false) {v:V} {r:List aI} (h:BZ L v r):∃j r',1<=j/\(r'=r\/tA r j=some r')/\az r' j= .store tS eS L/\∀(κ:Nat->Option Nat) (i:Nat),κ j=some i->iL κ v (.lp i 0):=by
 unfold BZ at h;split at h
 ·split at h
  ·rw[hb]at h;simp at h
  ·exact h.elim
 ·split at h
  ·rename_i j off _ t e M hst;split at h
   ·rename_i hc;simp only[Yj,Yl,Nat.ble_eq]at hc;obtain⟨⟨⟨rfl,rfl⟩,rfl⟩,hj⟩:=hc;obtain⟨_,rfl⟩:=h;have ht:∀(κ:Nat->Option Nat) (i:Nat),κ j=some i->iL κ (.lp j 0) (.lp i 0):=fun κ i hi ρ2 ρ3 N N' hv hN hk=>⟨by simp only[den,(hv j i hi).1],hN j i hi hk⟩
    rcases Du hst with h1|⟨r',h1,h2⟩
    ·exact⟨j,r,hj,.inl rfl,h1,ht⟩
    ·exact⟨j,r',hj,.inr h1,h2,ht⟩
   ·exact h.elim
  ·exact h.elim
 ·exact h.elim
theorem N5 {L M:List Sx.Obj} (hb:jf L M=true) {v:V} {r:List aI} (h:NN L M v r):yU UL v []:=by
 unfold NN at h;split at h
 ·split at h
  ·exact fun J K=>pX.refl _ _ _
  ·exact h.elim
 ·split at h
  ·split at h
   ·split at h
    ·split at h
     ·split at h
      ·rw[hb]at h;simp at h
      ·exact h.elim
     ·exact h.elim
    ·exact h.elim
   ·exact h.elim
  ·exact h.elim
 ·exact h.elim
theorem L9 {L M:List Sx.Obj} (hb:jf L M=false) {v:V} {r:List aI} (h:NN L M v r):∃j,2<=j/\az r j= .arr (some tI) 1 (.it .i64 (dc L M))/\∀(κ:Nat->Option Nat) (i:Nat),κ j=some i->iL κ v (.sa i):=by
 unfold NN at h;split at h
 ·split at h
  ·rw[hb]at h;simp at h
  ·exact h.elim
 ·split at h
  ·rename_i hj;split at h
   ·split at h
    ·split at h
     ·split at h
      ·rename_i hc;simp only[Yj,Yl,Nat.ble_eq]at hc;obtain⟨⟨rfl,rfl⟩,hj2⟩:=hc;obtain⟨_,rfl⟩:=h;exact⟨_,hj2,hj,fun κ i hi ρ2 ρ3 N N' hv hN hk=>⟨by simp only[den,(hv _ i hi).2.1,(hv _ i hi).2.2.2.1,(hv _ i hi).2.2.2.2.1],hN _ i hi hk⟩⟩
      ·exact h.elim
     ·exact h.elim
    ·exact h.elim
   ·exact h.elim
  ·exact h.elim
 ·exact h.elim
theorem CV (L:List Sx.Obj) (hL:L.length<=1000):ai Tryz.prog 157 [.lp 0 0] [.ro (.blk tS (.ag [.sa 1])),.ro (.obs eS 2 L),.gen 1] (BZ L) (fun _ _=>False):=aV (inl:=bp) (ann:=(iy [(157,5,XM [0,2,3,14,15] (fun g=> [(16,.it .i64 g)]) 3 tS eS (kN L) (oP L) (b9 (aj L)))])) (ab tU ak) (MT L hL) (by kernel_rfl)
theorem A0:lF Tryz.prog 157 JN:=by
 intro args res K KP h;unfold JN at h;split at h
 ·split at h
  ·split at h
   ·exact ai.pure rfl rfl (MR.mono (fun _ _ h=>dt h) fun _ _ h=>h) h
   ·exact h.elim
  ·rename_i k off;split at h
   ·rename_i hoff;have hoff:=Yl.1 hoff;subst hoff;split at h
    ·rename_i t e L hr;split at h
     ·rename_i hc;simp only[Yj,Yl]at hc;obtain⟨rfl,rfl⟩:=hc;obtain⟨hL,h1,h2⟩:=h;have hk:=dX hr (by simp)
      have hlt:=aN hk;have hres:ew (kG 0 (dv [(k,false)])) res [(k,false)]= [.ro (.store tS eS L)]:=by simp[ew,hr,ga]
      cases hb:bB L with
      |true=>
       refine ai.TT (pl:= [(k,false)]) (x:=lh) (args0:= [.lp 0 0]) (by simp[ez,cW.2 hk]) (by simpa[gN,dv,nI]using hlt) (by simp) (by simp[eX,fo,kG,idxOf,dv]) rfl ?_ (h1 hb)
       rw[hres];exact(ai.eR (k:=0) rfl (CV L hL)).mono (fun v r hv=>Nd hb hv) fun _ _ h=>h
      |false=>
       refine ai.UZ (pl:= [(k,false)]) (new:= .store tS eS L) (F:=fun j=> .lp j 0) (args0:= [.lp 0 0]) (by simp[ez,cW.2 hk]) (by simpa[gN,dv,nI]using hlt) (by simp) (by simp[eX,fo,kG,idxOf,dv]) rfl (by simp) (fun κ=>rfl) ?_ (h2 hb)
       rw[hres];refine ai.eR (k:=0) rfl (ai.shut (CV L hL) fun v r hv=>?_)
       obtain⟨j,r',hj,h1,h2,h3⟩:=GF hb hv;rcases h1 with rfl|h1
       ·exact .inl ⟨j,hj,h2,h3⟩
       ·exact .inr ⟨j,r',h1,j,hj,h2,h3⟩
     ·exact h.elim
    ·exact h.elim
   ·exact h.elim
  ·exact h.elim
 ·exact h.elim
theorem PI (L:List Sx.Obj):
 Value.slice none 0 0=Value.slice none 0 0:=by
 rfl
theorem QU (L:List Sx.Obj):ai Tryz.prog 164 [lh,.lp 0 0] [.ro (.store tS eS L)] (mn UL) (fun _ _=>False):=aV (inl:=bp) (ann:=aP) (ab tU ak) (PI L) (by kernel_rfl)
theorem Rg (L M:List Sx.Obj) (hL:L.length<=1000):
 ((bB L||bB M|| !decide (b9 (aj L)=b9 (aj M)))=true->jf L M=true)/\
   ((bB L||bB M|| !decide (b9 (aj L)=b9 (aj M)))=false->
     true=true/\
      true=true/\
       ∀(r0:Loop),
        (∃g,oP L g/\b9 (aj L)=b9 (aj L)/\0=g/\L=L/\M=M/\r0=r0/\ []=gL L M g)/\
         ∀(g:Int),
          oP L g->
           (decide (g<b9 (aj L))=true->
             (0<=g/\g< ↑(aj L))/\
              g.toNat<aj L/\
               g.toNat<aj L/\
                (0<=g/\g< ↑(aj M))/\
                 g.toNat<aj M/\
                  g.toNat<aj M/\
                   ((!CU (ah L g.toNat free) (ah M g.toNat free))=true->
                     r0=r0/\
                      r0=r0/\
                       vQ (aj (gL L M g)) 8/\
                        r0=r0/\
                         aG IntKind.i64 (g+1)/\
                          ∃g',
                           oP L g'/\
                            (b9 (aj L)-g').toNat<(b9 (aj L)-g).toNat/\
                             b9 (aj L)=b9 (aj L)/\
                              g+1=g'/\
                               L=L/\
                                M=M/\r0=r0/\iM (gL L M g) g=gL L M g')/\
                     ((!CU (ah L g.toNat free) (ah M g.toNat free))=false->
                       aG IntKind.i64 (g+1)/\
                        ∃g',
                         oP L g'/\
                          (b9 (aj L)-g').toNat<(b9 (aj L)-g).toNat/\
                           b9 (aj L)=b9 (aj L)/\
                            g+1=g'/\L=L/\M=M/\r0=r0/\gL L M g=gL L M g'))/\
            (decide (g<b9 (aj L))=false->jf L M=false/\gL L M g=dc L M)):=by
 refine⟨fun h=>h,fun h=>⟨rfl,rfl,fun r0=>?_⟩⟩
 have hlm:L.length=M.length:=by
  have h2:((bB L||bB M)|| !decide (b9 (aj L)=b9 (aj M)))=false:=h
  rw[Bool.or_eq_false_iff]at h2;have h3:=h2.2;rw[gu,gu]at h3;have h4:(L.length:Int)=(M.length:Int):=by simpa using h3
  omega
 have hn:=gu L;have hle:=lq L;have hle2:=lq M;refine⟨⟨0,⟨by omega,by omega⟩,rfl,rfl,rfl,rfl,rfl,rfl⟩,fun g hg=>⟨fun hlt=>?_,fun hge=>?_⟩⟩
 obtain⟨g0,g1⟩:=hg;have hlt:g<b9 (aj L):=Yn hlt;rw[hn]at hlt⊢;have ht:=K2 (L:=L) (M:=M) (g:=g);have hr:aG IntKind.i64 (g+1):=by simp only[aG,bY];omega
 exact⟨⟨g0,by omega⟩,by omega,by omega,⟨g0,by omega⟩,by omega,by omega,fun h=>⟨rfl,rfl,Ge (by omega),rfl,hr,g+1,⟨by omega,by omega⟩,by omega,rfl,rfl,rfl,rfl,rfl,NO g0 h⟩,fun h=>⟨hr,g+1,⟨by omega,by omega⟩,by omega,rfl,rfl,rfl,rfl,rfl,PC g0 h⟩⟩
 obtain⟨g0,g1⟩:=hg;have hge:¬g<b9 (aj L):=Ym hge;rw[hn]at hge;exact⟨h,by unfold dc;rw[show g=(aj L:Int) by omega]⟩
theorem Fl (L M:List Sx.Obj) (hL:L.length<=1000):ai Tryz.prog 164 [.lp 0 0,.lp 1 0] [.ro (.blk tS (.ag [.sa 2])),.ro (.blk tS (.ag [.sa 4])),.ro (.obs eS 3 L),.gen 2,.ro (.obs eS 5 M),.gen 4] (NN L M) (fun _ _=>False):=aV (inl:=(fun f=>f==164||f==187)) (ann:=(iy [(6000+194,1,X7 [0,1,2,6] (fun g=> [(7,.it .i64 g)]) 6 197 tI 1 (fun g=> .it .i64 (gL L M g)) (oP L) (b9 (aj L)))])) (ab tU ak) (Rg L M hL) (by kernel_rfl)
theorem ET:lF Tryz.prog 164 RS:=by
 intro args res K KP h;unfold RS at h;split at h
 ·rename_i a b;split at h
  ·rename_i j off;split at h
   ·rename_i hoff;have hoff:=Yl.1 hoff;subst hoff;split at h
    ·rename_i t e M hr;split at h
     ·rename_i hc;simp only[Yj,Yl]at hc;obtain⟨rfl,rfl⟩:=hc;have hj:=dX hr (by simp)
      have hjl:=aN hj;split at h
      ·split at h
       ·have hres:ew (kG 0 (dv [(j,false)])) res [(j,false)]= [.ro (.store tS eS M)]:=by simp[ew,hr,ga]
        refine ai.TT (pl:= [(j,false)]) (x:=UL) (args0:= [lh,.lp 0 0]) (by simp[ez,cW.2 hj]) (by simpa[gN,dv,nI]using hjl) (by simp) (by simp[eX,fo,kG,idxOf,dv,lh]) rfl ?_ h
        rw[hres];exact(QU M).mono (fun _ _ h=>dt h) fun _ _ h=>h
       ·exact h.elim
      ·rename_i k off';split at h
       ·rename_i hoff;simp only[Yj,Yl,Bool.not_eq_true',beq_eq_false_iff_ne]at hoff;obtain⟨rfl,hkj⟩:=hoff;split at h
        ·rename_i t' e' L hrk;split at h
         ·rename_i hc;simp only[Yj,Yl]at hc;obtain⟨rfl,rfl⟩:=hc;obtain⟨hL,h1,h2⟩:=h;have hk:=dX hrk (by simp)
          have hkl:=aN hk;have hres:ew (kG 0 (dv [(k,false),(j,false)])) res [(k,false),(j,false)]= [.ro (.store tS eS L),.ro (.store tS eS M)]:=by simp[ew,hr,hrk,ga]
          have hargs:eX (kG 0 (dv [(k,false),(j,false)])) [.lp k 0,.lp j 0]=some [.lp 0 0,.lp 1 0]:=by
           simp[eX,fo,kG,idxOf,dv,hkj]
          have hka:ez res [(k,false),(j,false)]=true:=by simp[ez,cW.2 hk,cW.2 hj]
          have hoe:gN 0 res.length (dv [(k,false),(j,false)])=true:=by simpa[gN,dv,nI]using⟨⟨hkl,Ne.symm hkj⟩,hjl⟩
          cases hb:jf L M with
          |true=>
           refine ai.TT (x:=UL) hka hoe (by simp) hargs rfl ?_ (h1 hb)
           rw[hres];exact(ai.eR (k:=0) rfl (ai.eR (k:=1) rfl (Fl L M hL))).mono (fun v r hv=>N5 hb hv) fun _ _ h=>h
          |false=>
           refine ai.UZ (new:= .arr (some tI) 1 (.it .i64 (dc L M))) (F:=fun j=> .sa j) hka hoe (by simp) hargs rfl (by simp) (fun κ=>rfl) ?_ (h2 hb)
           rw[hres];exact(ai.eR (k:=0) rfl (ai.eR (k:=1) rfl (Fl L M hL))).mono (fun v r hv=>L9 hb hv) fun _ _ h=>h
         ·exact h.elim
        ·exact h.elim
       ·exact h.elim
      ·exact h.elim
     ·exact h.elim
    ·exact h.elim
   ·exact h.elim
  ·exact h.elim
 ·exact h.elim
end Go.Proofs.YtghpaegglbbocaaGreat
