import Derived.Test.YtghpaegglbbocaaGreatKS
namespace Go.Proofs.YtghpaegglbbocaaGreat
open Go.Sx
theorem Uh {P:Program} {f:Nat} {g g':Ct} (h:ck P f g) (ha:∀res nid args q x new,g' res nid args=some (q,x,new)->∃x0,g res nid args=some (q,x0,new)/\(∀J,den J x=den J x0)/\∀K,ok K x0->ok K x):ck P f g':=by
 intro J fps res K w0 F0 w nid args q x new hH hargs hg hq hfr;obtain⟨x0,h1,h2,h3⟩:=ha res nid args q x new hg;obtain⟨c1,c2⟩:=h J fps res K w0 F0 w nid args q x0 new hH hargs h1 hq hfr;refine⟨c1.mono fun e w' ⟨v,he,hv⟩=>⟨v,he,?_⟩,c2⟩
 obtain⟨ρ',hgr,hv,hx⟩:=hv;exact⟨ρ',hgr,by rw[h2];exact hv,h3 _ hx⟩
theorem tk:ck Tryz.prog 34 E0:=by
 refine Uh oV fun res nid args q x new h=>?_
 unfold E0 at h;split at h
 ·rename_i a;split at h
  ·rename_i o L hr;split at h
   ·simp only[Yh,Yi]at h;obtain⟨rfl,rfl,rfl⟩:=h
    have hL:L= []:=by
     rcases uw hr with⟨_,rfl,_⟩|⟨k,h,_⟩
     ·rfl
     ·simp at h
    subst hL;exact⟨.bo (bC []),by unfold Eu Tm;simp only[hr],fun J=>by simp[den,qG],fun _ _=>trivial⟩
   ·simp only[Yh,Yi]at h;obtain⟨rfl,rfl,rfl⟩:=h;exact⟨.bo (bC L),by unfold Eu Tm;simp only[hr],fun J=>rfl,fun _ h=>h⟩
  ·simp at h
 ·simp at h
end Go.Proofs.YtghpaegglbbocaaGreat
namespace Go.Proofs.YtghpaegglbbocaaGreat
open Go.Sx
set_option maxRecDepth 100000
theorem KG:
 Value.pointer none=Value.pointer none:=by
 rfl
theorem KS:aj Tryz.prog 157 [lg] [] (mS lg) (fun _ _=>False):=aV (inl:=bp) (ann:=aP) (ab tk ak) KG (by kernel_rfl)
theorem Jz (L:List Sx.Obj) (hL:L.length<=1000):
 (bC L=true->bC L=true)/\
  (bC L=false->
   (∃g,
     o8 L g/\
      Value.pointer none=Value.pointer none/\b9 (ai L)=b9 (ai L)/\0=g/\L=L/\ []=kU L g)/\
    ∀(g:Int),
     o8 L g->
      (decide (g<b9 (ai L))=true->
        (0<=g/\g< ↑(ai L))/\
         g.toNat<ai L/\
          g.toNat<ai L/\
           vY (ai (kU L g)) 8/\
            aG IntKind.i64 (g+1)/\
             ∃g',
              o8 L g'/\
               (b9 (ai L)-g').toNat<(b9 (ai L)-g).toNat/\
                Value.pointer none=Value.pointer none/\
                 b9 (ai L)=b9 (ai L)/\
                  g+1=g'/\L=L/\iM (kU L g) (ah L g.toNat free)=kU L g')/\
       (decide (g<b9 (ai L))=false->bC L=false/\kU L g=L)):=by
 refine⟨fun h=>h,fun h=>⟨⟨0,⟨by omega,by omega⟩,rfl,rfl,rfl,rfl,rfl⟩,fun g hg=>⟨fun hlt=>?_,fun hge=>?_⟩⟩⟩
 ·obtain⟨g0,g1⟩:=hg;have hlt:g<b9 (ai L):=Yn hlt;have hn:=gr L;have hle:=lj L;rw[hn]at hlt⊢;have ht:=MR (L:=L) (g:=g);exact⟨⟨g0,by omega⟩,by omega,by omega,Fh (by omega),by simp only[aG,bY];omega,g+1,⟨by omega,by omega⟩,by omega,rfl,rfl,rfl,rfl,KT g0 hlt⟩
 ·obtain⟨g0,g1⟩:=hg;have hge:¬g<b9 (ai L):=Ym hge;rw[gr]at hge;exact⟨h,La (by omega)⟩
theorem KY {L:List Sx.Obj} (hb:bC L=true) {v:V} {r:List aI} (h:Cd L v r):yU lg v []:=by
 unfold Cd at h;split at h
 ·split at h
  ·exact fun J K=>p5.refl _ _ _
  ·exact h.elim
 ·split at h
  ·split at h
   ·rw[hb]at h;simp at h
   ·exact h.elim
  ·exact h.elim
 ·exact h.elim
theorem HB {L:List Sx.Obj} (hb:bC L=false) {v:V} {r:List aI} (h:Cd L v r):∃j r',1<=j/\(r'=r\/tn r j=some r')/\az r' j= .store tS eS L/\∀(κ:Nat->Option Nat) (i:Nat),κ j=some i->iI κ v (.lp i 0):=by
 unfold Cd at h;split at h
 ·split at h
  ·rw[hb]at h;simp at h
  ·exact h.elim
 ·split at h
  ·rename_i j off _ t e M hst;split at h
   ·rename_i hc;simp only[Yj,Yl,Nat.ble_eq]at hc;obtain⟨⟨⟨rfl,rfl⟩,rfl⟩,hj⟩:=hc;obtain⟨_,rfl⟩:=h;have ht:∀(κ:Nat->Option Nat) (i:Nat),κ j=some i->iI κ (.lp j 0) (.lp i 0):=fun κ i hi ρ2 ρ3 N N' hv hN hk=>⟨by simp only[den,(hv j i hi).1],hN j i hi hk⟩
    rcases Dq hst with h1|⟨r',h1,h2⟩
    ·exact⟨j,r,hj,.inl rfl,h1,ht⟩
    ·exact⟨j,r',hj,.inr h1,h2,ht⟩
   ·exact h.elim
  ·exact h.elim
 ·exact h.elim
theorem QN {L M:List Sx.Obj} (hb:jl L M=true) {v:V} {r:List aI} (h:NF L M v r):yU UN v []:=by
 unfold NF at h;split at h
 ·split at h
  ·exact fun J K=>p5.refl _ _ _
  ·exact h.elim
 ·split at h
  ·split at h
   ·split at h
    ·split at h
     ·split at h
      ·rw[hb]at h;simp at h
      ·exact h.elim
     ·exact h.elim
    ·exact h.elim
   ·exact h.elim
  ·exact h.elim
 ·exact h.elim
theorem NO {L M:List Sx.Obj} (hb:jl L M=false) {v:V} {r:List aI} (h:NF L M v r):∃j,2<=j/\az r j= .arr (some tI) 1 (.it .i64 (dc L M))/\∀(κ:Nat->Option Nat) (i:Nat),κ j=some i->iI κ v (.sa i):=by
 unfold NF at h;split at h
 ·split at h
  ·rw[hb]at h;simp at h
  ·exact h.elim
 ·split at h
  ·rename_i hj;split at h
   ·split at h
    ·split at h
     ·split at h
      ·rename_i hc;simp only[Yj,Yl,Nat.ble_eq]at hc;obtain⟨⟨rfl,rfl⟩,hj2⟩:=hc;obtain⟨_,rfl⟩:=h;exact⟨_,hj2,hj,fun κ i hi ρ2 ρ3 N N' hv hN hk=>⟨by simp only[den,(hv _ i hi).2.1,(hv _ i hi).2.2.2.1,(hv _ i hi).2.2.2.2.1],hN _ i hi hk⟩⟩
      ·exact h.elim
     ·exact h.elim
    ·exact h.elim
   ·exact h.elim
  ·exact h.elim
 ·exact h.elim
theorem CL (L:List Sx.Obj) (hL:L.length<=1000):aj Tryz.prog 157 [.lp 0 0] [.ro (.blk tS (.ag [.sa 1])),.ro (.obs eS 2 L),.gen 1] (Cd L) (fun _ _=>False):=aV (inl:=bp) (ann:=(iB [(157,5,XT [0,2,3,14,15] (fun g=> [(16,.it .i64 g)]) 3 tS eS (kU L) (o8 L) (b9 (ai L)))])) (ab tk ak) (Jz L hL) (by kernel_rfl)
theorem Bc:lA Tryz.prog 157 Ke:=by
 intro args res K KP h;unfold Ke at h;split at h
 ·split at h
  ·split at h
   ·exact aj.pure rfl rfl (KS.mono (fun _ _ h=>dr h) fun _ _ h=>h) h
   ·exact h.elim
  ·rename_i k off;split at h
   ·rename_i hoff;have hoff:=Yl.1 hoff;subst hoff;split at h
    ·rename_i t e L hr;split at h
     ·rename_i hc;simp only[Yj,Yl]at hc;obtain⟨rfl,rfl⟩:=hc;obtain⟨hL,h1,h2⟩:=h;have hk:=dX hr (by simp)
      have hlt:=aN hk;have hres:ez (kG 0 (dv [(k,false)])) res [(k,false)]= [.ro (.store tS eS L)]:=by simp[ez,hr,ga]
      cases hb:bC L with
      |true=>
       refine aj.TC (pl:= [(k,false)]) (x:=lg) (args0:= [.lp 0 0]) (by simp[ew,cV.2 hk]) (by simpa[gN,dv,np]using hlt) (by simp) (by simp[eO,ft,kG,idxOf,dv]) rfl ?_ (h1 hb)
       rw[hres];exact(aj.eN (k:=0) rfl (CL L hL)).mono (fun v r hv=>KY hb hv) fun _ _ h=>h
      |false=>
       refine aj.Wa (pl:= [(k,false)]) (new:= .store tS eS L) (F:=fun j=> .lp j 0) (args0:= [.lp 0 0]) (by simp[ew,cV.2 hk]) (by simpa[gN,dv,np]using hlt) (by simp) (by simp[eO,ft,kG,idxOf,dv]) rfl (by simp) (fun κ=>rfl) ?_ (h2 hb)
       rw[hres];refine aj.eN (k:=0) rfl (aj.shut (CL L hL) fun v r hv=>?_)
       obtain⟨j,r',hj,h1,h2,h3⟩:=HB hb hv;rcases h1 with rfl|h1
       ·exact .inl ⟨j,hj,h2,h3⟩
       ·exact .inr ⟨j,r',h1,j,hj,h2,h3⟩
     ·exact h.elim
    ·exact h.elim
   ·exact h.elim
  ·exact h.elim
 ·exact h.elim
theorem OJ (L:List Sx.Obj):
 Value.slice none 0 0=Value.slice none 0 0:=by
 rfl
theorem Ru (L:List Sx.Obj):aj Tryz.prog 164 [lg,.lp 0 0] [.ro (.store tS eS L)] (mS UN) (fun _ _=>False):=aV (inl:=bp) (ann:=aP) (ab tk ak) (OJ L) (by kernel_rfl)
theorem Rr (L M:List Sx.Obj) (hL:L.length<=1000):
 ((bC L||bC M|| !decide (b9 (ai L)=b9 (ai M)))=true->jl L M=true)/\
   ((bC L||bC M|| !decide (b9 (ai L)=b9 (ai M)))=false->
     true=true/\
      true=true/\
       ∀(r0:Loop),
        (∃g,o8 L g/\b9 (ai L)=b9 (ai L)/\0=g/\L=L/\M=M/\r0=r0/\ []=gJ L M g)/\
         ∀(g:Int),
          o8 L g->
           (decide (g<b9 (ai L))=true->
             (0<=g/\g< ↑(ai L))/\
              g.toNat<ai L/\
               g.toNat<ai L/\
                (0<=g/\g< ↑(ai M))/\
                 g.toNat<ai M/\
                  g.toNat<ai M/\
                   ((!CZ (ah L g.toNat free) (ah M g.toNat free))=true->
                     r0=r0/\
                      r0=r0/\
                       vY (ai (gJ L M g)) 8/\
                        r0=r0/\
                         aG IntKind.i64 (g+1)/\
                          ∃g',
                           o8 L g'/\
                            (b9 (ai L)-g').toNat<(b9 (ai L)-g).toNat/\
                             b9 (ai L)=b9 (ai L)/\
                              g+1=g'/\
                               L=L/\
                                M=M/\r0=r0/\iM (gJ L M g) g=gJ L M g')/\
                     ((!CZ (ah L g.toNat free) (ah M g.toNat free))=false->
                       aG IntKind.i64 (g+1)/\
                        ∃g',
                         o8 L g'/\
                          (b9 (ai L)-g').toNat<(b9 (ai L)-g).toNat/\
                           b9 (ai L)=b9 (ai L)/\
                            g+1=g'/\L=L/\M=M/\r0=r0/\gJ L M g=gJ L M g'))/\
            (decide (g<b9 (ai L))=false->jl L M=false/\gJ L M g=dc L M)):=by
 refine⟨fun h=>h,fun h=>⟨rfl,rfl,fun r0=>?_⟩⟩
 have hlm:L.length=M.length:=by
  have h2:((bC L||bC M)|| !decide (b9 (ai L)=b9 (ai M)))=false:=h
  rw[Bool.or_eq_false_iff]at h2;have h3:=h2.2;rw[gr,gr]at h3;have h4:(L.length:Int)=(M.length:Int):=by simpa using h3
  omega
 have hn:=gr L;have hle:=lj L;have hle2:=lj M;refine⟨⟨0,⟨by omega,by omega⟩,rfl,rfl,rfl,rfl,rfl,rfl⟩,fun g hg=>⟨fun hlt=>?_,fun hge=>?_⟩⟩
 obtain⟨g0,g1⟩:=hg;have hlt:g<b9 (ai L):=Yn hlt;rw[hn]at hlt⊢;have ht:=It (L:=L) (M:=M) (g:=g);have hr:aG IntKind.i64 (g+1):=by simp only[aG,bY];omega
 exact⟨⟨g0,by omega⟩,by omega,by omega,⟨g0,by omega⟩,by omega,by omega,fun h=>⟨rfl,rfl,Fh (by omega),rfl,hr,g+1,⟨by omega,by omega⟩,by omega,rfl,rfl,rfl,rfl,rfl,JU g0 h⟩,fun h=>⟨hr,g+1,⟨by omega,by omega⟩,by omega,rfl,rfl,rfl,rfl,rfl,Ob g0 h⟩⟩
 obtain⟨g0,g1⟩:=hg;have hge:¬g<b9 (ai L):=Ym hge;rw[hn]at hge;exact⟨h,by unfold dc;rw[show g=(ai L:Int) by omega]⟩
theorem F8 (L M:List Sx.Obj) (hL:L.length<=1000):aj Tryz.prog 164 [.lp 0 0,.lp 1 0] [.ro (.blk tS (.ag [.sa 2])),.ro (.blk tS (.ag [.sa 4])),.ro (.obs eS 3 L),.gen 2,.ro (.obs eS 5 M),.gen 4] (NF L M) (fun _ _=>False):=aV (inl:=(fun f=>f==164||f==187)) (ann:=(iB [(6000+194,1,X7 [0,1,2,6] (fun g=> [(7,.it .i64 g)]) 6 197 tI 1 (fun g=> .it .i64 (gJ L M g)) (o8 L) (b9 (ai L)))])) (ab tk ak) (Rr L M hL) (by kernel_rfl)
theorem EI:lA Tryz.prog 164 Sc:=by
 intro args res K KP h;unfold Sc at h;split at h
 ·rename_i a b;split at h
  ·rename_i j off;split at h
   ·rename_i hoff;have hoff:=Yl.1 hoff;subst hoff;split at h
    ·rename_i t e M hr;split at h
     ·rename_i hc;simp only[Yj,Yl]at hc;obtain⟨rfl,rfl⟩:=hc;have hj:=dX hr (by simp)
      have hjl:=aN hj;split at h
      ·split at h
       ·have hres:ez (kG 0 (dv [(j,false)])) res [(j,false)]= [.ro (.store tS eS M)]:=by simp[ez,hr,ga]
        refine aj.TC (pl:= [(j,false)]) (x:=UN) (args0:= [lg,.lp 0 0]) (by simp[ew,cV.2 hj]) (by simpa[gN,dv,np]using hjl) (by simp) (by simp[eO,ft,kG,idxOf,dv,lg]) rfl ?_ h
        rw[hres];exact(Ru M).mono (fun _ _ h=>dr h) fun _ _ h=>h
       ·exact h.elim
      ·rename_i k off';split at h
       ·rename_i hoff;simp only[Yj,Yl,Bool.not_eq_true',beq_eq_false_iff_ne]at hoff;obtain⟨rfl,hkj⟩:=hoff;split at h
        ·rename_i t' e' L hrk;split at h
         ·rename_i hc;simp only[Yj,Yl]at hc;obtain⟨rfl,rfl⟩:=hc;obtain⟨hL,h1,h2⟩:=h;have hk:=dX hrk (by simp)
          have hkl:=aN hk;have hres:ez (kG 0 (dv [(k,false),(j,false)])) res [(k,false),(j,false)]= [.ro (.store tS eS L),.ro (.store tS eS M)]:=by simp[ez,hr,hrk,ga]
          have hargs:eO (kG 0 (dv [(k,false),(j,false)])) [.lp k 0,.lp j 0]=some [.lp 0 0,.lp 1 0]:=by
           simp[eO,ft,kG,idxOf,dv,hkj]
          have hka:ew res [(k,false),(j,false)]=true:=by simp[ew,cV.2 hk,cV.2 hj]
          have hoe:gN 0 res.length (dv [(k,false),(j,false)])=true:=by simpa[gN,dv,np]using⟨⟨hkl,Ne.symm hkj⟩,hjl⟩
          cases hb:jl L M with
          |true=>
           refine aj.TC (x:=UN) hka hoe (by simp) hargs rfl ?_ (h1 hb)
           rw[hres];exact(aj.eN (k:=0) rfl (aj.eN (k:=1) rfl (F8 L M hL))).mono (fun v r hv=>QN hb hv) fun _ _ h=>h
          |false=>
           refine aj.Wa (new:= .arr (some tI) 1 (.it .i64 (dc L M))) (F:=fun j=> .sa j) hka hoe (by simp) hargs rfl (by simp) (fun κ=>rfl) ?_ (h2 hb)
           rw[hres];exact(aj.eN (k:=0) rfl (aj.eN (k:=1) rfl (F8 L M hL))).mono (fun v r hv=>NO hb hv) fun _ _ h=>h
         ·exact h.elim
        ·exact h.elim
       ·exact h.elim
      ·exact h.elim
     ·exact h.elim
    ·exact h.elim
   ·exact h.elim
  ·exact h.elim
 ·exact h.elim
end Go.Proofs.YtghpaegglbbocaaGreat
