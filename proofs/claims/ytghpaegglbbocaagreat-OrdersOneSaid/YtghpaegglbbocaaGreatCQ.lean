import Derived.Test.YtghpaegglbbocaaGreatKS
set_option linter.unusedSimpArgs false
set_option linter.unusedVariables false
namespace Go.Proofs.YtghpaegglbbocaaGreat
open Go.Sx
theorem Tm {P:Program} {f:Nat} {g g':Ct} (h:ck P f g) (ha:∀res nid args q x new,g' res nid args=some (q,x,new)->∃x0,g res nid args=some (q,x0,new)/\(∀J,den J x=den J x0)/\∀K,ok K x0->ok K x):ck P f g':=by
 intro J fps res K w0 F0 w nid args q x new hH hargs hg hq hfr;obtain⟨x0,h1,h2,h3⟩:=ha res nid args q x new hg;obtain⟨c1,c2⟩:=h J fps res K w0 F0 w nid args q x0 new hH hargs h1 hq hfr;refine⟨c1.mono fun e w' ⟨v,he,hv⟩=>⟨v,he,?_⟩,c2⟩
 obtain⟨ρ',hgr,hv,hx⟩:=hv;exact⟨ρ',hgr,by rw[h2];exact hv,h3 _ hx⟩
theorem sW:ck Tryz.prog 34 FT:=by
 refine Tm oC fun res nid args q x new h=>?_
 unfold FT at h;split at h
 ·rename_i a;split at h
  ·rename_i o L hr;split at h
   ·simp only[Ym,Yn]at h;obtain⟨rfl,rfl,rfl⟩:=h
    have hL:L= []:=by
     rcases tX hr with⟨_,rfl,_⟩|⟨k,h,_⟩
     ·rfl
     ·simp at h
    subst hL;exact⟨.bo (bC []),by unfold DS Uo;simp only[hr],fun J=>by simp[den,qJ],fun _ _=>trivial⟩
   ·simp only[Ym,Yn]at h;obtain⟨rfl,rfl,rfl⟩:=h;exact⟨.bo (bC L),by unfold DS Uo;simp only[hr],fun J=>rfl,fun _ h=>h⟩
  ·simp at h
 ·simp at h
end Go.Proofs.YtghpaegglbbocaaGreat
namespace Go.Proofs.YtghpaegglbbocaaGreat
open Go.Sx
set_option maxRecDepth 100000
theorem KT:
 Value.pointer none=Value.pointer none:=by
 rfl
theorem Mj:ai Tryz.prog 157 [lh] [] (mG lh) (fun _ _=>False):=aV (inl:=bn) (ann:=aP) (ab sW ak) KT (by kernel_rfl)
theorem Le (L:List Sx.Obj) (hL:L.length<=1000):
 (bC L=true->bC L=true)/\
  (bC L=false->
   (∃g,
     oV L g/\
      Value.pointer none=Value.pointer none/\b9 (aj L)=b9 (aj L)/\0=g/\L=L/\ []=kX L g)/\
    ∀(g:Int),
     oV L g->
      (decide (g<b9 (aj L))=true->
        (0<=g/\g< ↑(aj L))/\
         g.toNat<aj L/\
          g.toNat<aj L/\
           vT (aj (kX L g)) 8/\
            aG IntKind.i64 (g+1)/\
             ∃g',
              oV L g'/\
               (b9 (aj L)-g').toNat<(b9 (aj L)-g).toNat/\
                Value.pointer none=Value.pointer none/\
                 b9 (aj L)=b9 (aj L)/\
                  g+1=g'/\L=L/\iN (kX L g) (ah L g.toNat free)=kX L g')/\
       (decide (g<b9 (aj L))=false->bC L=false/\kX L g=L)):=by
 refine⟨fun h=>h,fun h=>⟨⟨0,⟨by omega,by omega⟩,rfl,rfl,rfl,rfl,rfl⟩,fun g hg=>⟨fun hlt=>?_,fun hge=>?_⟩⟩⟩
 ·obtain⟨g0,g1⟩:=hg;have hlt:g<b9 (aj L):=Ys hlt;have hn:=gu L;have hle:=lk L;rw[hn]at hlt⊢;have ht:=M7 (L:=L) (g:=g);exact⟨⟨g0,by omega⟩,by omega,by omega,FA (by omega),by simp only[aG,bY];omega,g+1,⟨by omega,by omega⟩,by omega,rfl,rfl,rfl,rfl,Ii g0 hlt⟩
 ·obtain⟨g0,g1⟩:=hg;have hge:¬g<b9 (aj L):=Yr hge;rw[gu]at hge;exact⟨h,K8 (by omega)⟩
theorem Mb {L:List Sx.Obj} (hb:bC L=true) {v:V} {r:List aI} (h:Dj L v r):yW lh v []:=by
 unfold Dj at h;split at h
 ·split at h
  ·exact fun J K=>qd.refl _ _ _
  ·exact h.elim
 ·split at h
  ·split at h
   ·rw[hb]at h;simp at h
   ·exact h.elim
  ·exact h.elim
 ·exact h.elim
theorem Hh {L:List Sx.Obj} (hb:bC L=false) {v:V} {r:List aI} (h:Dj L v r):∃j r',1<=j/\(r'=r\/sR r j=some r')/\az r' j= .store tS eS L/\∀(κ:Nat->Option Nat) (i:Nat),κ j=some i->iI κ v (.lp i 0):=by
 unfold Dj at h;split at h
 ·split at h
  ·rw[hb]at h;simp at h
  ·exact h.elim
 ·split at h
  ·rename_i j off _ t e M hst;split at h
   ·rename_i hc;simp only[Yo,Yq,Nat.ble_eq]at hc;obtain⟨⟨⟨rfl,rfl⟩,rfl⟩,hj⟩:=hc;obtain⟨_,rfl⟩:=h;have ht:∀(κ:Nat->Option Nat) (i:Nat),κ j=some i->iI κ (.lp j 0) (.lp i 0):=fun κ i hi ρ2 ρ3 N N' hv hN hk=>⟨by simp only[den,(hv j i hi).1],hN j i hi hk⟩
    rcases Cp hst with h1|⟨r',h1,h2⟩
    ·exact⟨j,r,hj,.inl rfl,h1,ht⟩
    ·exact⟨j,r',hj,.inr h1,h2,ht⟩
   ·exact h.elim
  ·exact h.elim
 ·exact h.elim
theorem RF {L M:List Sx.Obj} (hb:jo L M=true) {v:V} {r:List aI} (h:Nu L M v r):yW UW v []:=by
 unfold Nu at h;split at h
 ·split at h
  ·exact fun J K=>qd.refl _ _ _
  ·exact h.elim
 ·split at h
  ·split at h
   ·split at h
    ·split at h
     ·split at h
      ·rw[hb]at h;simp at h
      ·exact h.elim
     ·exact h.elim
    ·exact h.elim
   ·exact h.elim
  ·exact h.elim
 ·exact h.elim
theorem IW {L M:List Sx.Obj} (hb:jo L M=false) {v:V} {r:List aI} (h:Nu L M v r):∃j,2<=j/\az r j= .arr (some tI) 1 (.it .i64 (de L M))/\∀(κ:Nat->Option Nat) (i:Nat),κ j=some i->iI κ v (.sa i):=by
 unfold Nu at h;split at h
 ·split at h
  ·rw[hb]at h;simp at h
  ·exact h.elim
 ·split at h
  ·rename_i hj;split at h
   ·split at h
    ·split at h
     ·split at h
      ·rename_i hc;simp only[Yo,Yq,Nat.ble_eq]at hc;obtain⟨⟨rfl,rfl⟩,hj2⟩:=hc;obtain⟨_,rfl⟩:=h;exact⟨_,hj2,hj,fun κ i hi ρ2 ρ3 N N' hv hN hk=>⟨by simp only[den,(hv _ i hi).2.1,(hv _ i hi).2.2.2.1,(hv _ i hi).2.2.2.2.1],hN _ i hi hk⟩⟩
      ·exact h.elim
     ·exact h.elim
    ·exact h.elim
   ·exact h.elim
  ·exact h.elim
 ·exact h.elim
theorem CV (L:List Sx.Obj) (hL:L.length<=1000):ai Tryz.prog 157 [.lp 0 0] [.ro (.blk tS (.ag [.sa 1])),.ro (.obs eS 2 L),.gen 1] (Dj L) (fun _ _=>False):=aV (inl:=bn) (ann:=(iz [(157,5,X2 [0,2,3,14,15] (fun g=> [(16,.it .i64 g)]) 3 tS eS (kX L) (oV L) (b9 (aj L)))])) (ab sW ak) (Le L hL) (by kernel_rfl)
theorem Bc:lG Tryz.prog 157 NN:=by
 intro args res K KP h;unfold NN at h;split at h
 ·split at h
  ·split at h
   ·exact ai.pure rfl rfl (Mj.mono (fun _ _ h=>du h) fun _ _ h=>h) h
   ·exact h.elim
  ·rename_i k off;split at h
   ·rename_i hoff;have hoff:=Yq.1 hoff;subst hoff;split at h
    ·rename_i t e L hr;split at h
     ·rename_i hc;simp only[Yo,Yq]at hc;obtain⟨rfl,rfl⟩:=hc;obtain⟨hL,h1,h2⟩:=h;have hk:=dY hr (by simp)
      have hlt:=aN hk;have hres:eA (kH 0 (dz [(k,false)])) res [(k,false)]= [.ro (.store tS eS L)]:=by simp[eA,hr,ga]
      cases hb:bC L with
      |true=>
       refine ai.Ux (pl:= [(k,false)]) (x:=lh) (args0:= [.lp 0 0]) (by simp[ez,cV.2 hk]) (by simpa[gO,dz,nz]using hlt) (by simp) (by simp[eN,fm,kH,idxOf,dz]) rfl ?_ (h1 hb)
       rw[hres];exact(ai.eQ (k:=0) rfl (CV L hL)).mono (fun v r hv=>Mb hb hv) fun _ _ h=>h
      |false=>
       refine ai.Vu (pl:= [(k,false)]) (new:= .store tS eS L) (F:=fun j=> .lp j 0) (args0:= [.lp 0 0]) (by simp[ez,cV.2 hk]) (by simpa[gO,dz,nz]using hlt) (by simp) (by simp[eN,fm,kH,idxOf,dz]) rfl (by simp) (fun κ=>rfl) ?_ (h2 hb)
       rw[hres];refine ai.eQ (k:=0) rfl (ai.shut (CV L hL) fun v r hv=>?_)
       obtain⟨j,r',hj,h1,h2,h3⟩:=Hh hb hv;rcases h1 with rfl|h1
       ·exact .inl ⟨j,hj,h2,h3⟩
       ·exact .inr ⟨j,r',h1,j,hj,h2,h3⟩
     ·exact h.elim
    ·exact h.elim
   ·exact h.elim
  ·exact h.elim
 ·exact h.elim
theorem OP (L:List Sx.Obj):
 Value.slice none 0 0=Value.slice none 0 0:=by
 rfl
theorem Rs (L:List Sx.Obj):ai Tryz.prog 164 [lh,.lp 0 0] [.ro (.store tS eS L)] (mG UW) (fun _ _=>False):=aV (inl:=bn) (ann:=aP) (ab sW ak) (OP L) (by kernel_rfl)
theorem RA (L M:List Sx.Obj) (hL:L.length<=1000):
 ((bC L||bC M|| !decide (b9 (aj L)=b9 (aj M)))=true->jo L M=true)/\
   ((bC L||bC M|| !decide (b9 (aj L)=b9 (aj M)))=false->
     true=true/\
      true=true/\
       ∀(r0:Loop),
        (∃g,oV L g/\b9 (aj L)=b9 (aj L)/\0=g/\L=L/\M=M/\r0=r0/\ []=gH L M g)/\
         ∀(g:Int),
          oV L g->
           (decide (g<b9 (aj L))=true->
             (0<=g/\g< ↑(aj L))/\
              g.toNat<aj L/\
               g.toNat<aj L/\
                (0<=g/\g< ↑(aj M))/\
                 g.toNat<aj M/\
                  g.toNat<aj M/\
                   ((!Dm (ah L g.toNat free) (ah M g.toNat free))=true->
                     r0=r0/\
                      r0=r0/\
                       vT (aj (gH L M g)) 8/\
                        r0=r0/\
                         aG IntKind.i64 (g+1)/\
                          ∃g',
                           oV L g'/\
                            (b9 (aj L)-g').toNat<(b9 (aj L)-g).toNat/\
                             b9 (aj L)=b9 (aj L)/\
                              g+1=g'/\
                               L=L/\
                                M=M/\r0=r0/\iN (gH L M g) g=gH L M g')/\
                     ((!Dm (ah L g.toNat free) (ah M g.toNat free))=false->
                       aG IntKind.i64 (g+1)/\
                        ∃g',
                         oV L g'/\
                          (b9 (aj L)-g').toNat<(b9 (aj L)-g).toNat/\
                           b9 (aj L)=b9 (aj L)/\
                            g+1=g'/\L=L/\M=M/\r0=r0/\gH L M g=gH L M g'))/\
            (decide (g<b9 (aj L))=false->jo L M=false/\gH L M g=de L M)):=by
 refine⟨fun h=>h,fun h=>⟨rfl,rfl,fun r0=>?_⟩⟩
 have hlm:L.length=M.length:=by
  have h2:((bC L||bC M)|| !decide (b9 (aj L)=b9 (aj M)))=false:=h
  rw[Bool.or_eq_false_iff]at h2;have h3:=h2.2;rw[gu,gu]at h3;have h4:(L.length:Int)=(M.length:Int):=by simpa using h3
  omega
 have hn:=gu L;have hle:=lk L;have hle2:=lk M;refine⟨⟨0,⟨by omega,by omega⟩,rfl,rfl,rfl,rfl,rfl,rfl⟩,fun g hg=>⟨fun hlt=>?_,fun hge=>?_⟩⟩
 obtain⟨g0,g1⟩:=hg;have hlt:g<b9 (aj L):=Ys hlt;rw[hn]at hlt⊢;have ht:=Jh (L:=L) (M:=M) (g:=g);have hr:aG IntKind.i64 (g+1):=by simp only[aG,bY];omega
 exact⟨⟨g0,by omega⟩,by omega,by omega,⟨g0,by omega⟩,by omega,by omega,fun h=>⟨rfl,rfl,FA (by omega),rfl,hr,g+1,⟨by omega,by omega⟩,by omega,rfl,rfl,rfl,rfl,rfl,LF g0 h⟩,fun h=>⟨hr,g+1,⟨by omega,by omega⟩,by omega,rfl,rfl,rfl,rfl,rfl,RH g0 h⟩⟩
 obtain⟨g0,g1⟩:=hg;have hge:¬g<b9 (aj L):=Yr hge;rw[hn]at hge;exact⟨h,by unfold de;rw[show g=(aj L:Int) by omega]⟩
theorem Fj (L M:List Sx.Obj) (hL:L.length<=1000):ai Tryz.prog 164 [.lp 0 0,.lp 1 0] [.ro (.blk tS (.ag [.sa 2])),.ro (.blk tS (.ag [.sa 4])),.ro (.obs eS 3 L),.gen 2,.ro (.obs eS 5 M),.gen 4] (Nu L M) (fun _ _=>False):=aV (inl:=(fun f=>f==164||f==187)) (ann:=(iz [(6000+194,1,Yb [0,1,2,6] (fun g=> [(7,.it .i64 g)]) 6 197 tI 1 (fun g=> .it .i64 (gH L M g)) (oV L) (b9 (aj L)))])) (ab sW ak) (RA L M hL) (by kernel_rfl)
theorem El:lG Tryz.prog 164 Sf:=by
 intro args res K KP h;unfold Sf at h;split at h
 ·rename_i a b;split at h
  ·rename_i j off;split at h
   ·rename_i hoff;have hoff:=Yq.1 hoff;subst hoff;split at h
    ·rename_i t e M hr;split at h
     ·rename_i hc;simp only[Yo,Yq]at hc;obtain⟨rfl,rfl⟩:=hc;have hj:=dY hr (by simp)
      have hjl:=aN hj;split at h
      ·split at h
       ·have hres:eA (kH 0 (dz [(j,false)])) res [(j,false)]= [.ro (.store tS eS M)]:=by simp[eA,hr,ga]
        refine ai.Ux (pl:= [(j,false)]) (x:=UW) (args0:= [lh,.lp 0 0]) (by simp[ez,cV.2 hj]) (by simpa[gO,dz,nz]using hjl) (by simp) (by simp[eN,fm,kH,idxOf,dz,lh]) rfl ?_ h
        rw[hres];exact(Rs M).mono (fun _ _ h=>du h) fun _ _ h=>h
       ·exact h.elim
      ·rename_i k off';split at h
       ·rename_i hoff;simp only[Yo,Yq,Bool.not_eq_true',beq_eq_false_iff_ne]at hoff;obtain⟨rfl,hkj⟩:=hoff;split at h
        ·rename_i t' e' L hrk;split at h
         ·rename_i hc;simp only[Yo,Yq]at hc;obtain⟨rfl,rfl⟩:=hc;obtain⟨hL,h1,h2⟩:=h;have hk:=dY hrk (by simp)
          have hkl:=aN hk;have hres:eA (kH 0 (dz [(k,false),(j,false)])) res [(k,false),(j,false)]= [.ro (.store tS eS L),.ro (.store tS eS M)]:=by simp[eA,hr,hrk,ga]
          have hargs:eN (kH 0 (dz [(k,false),(j,false)])) [.lp k 0,.lp j 0]=some [.lp 0 0,.lp 1 0]:=by
           simp[eN,fm,kH,idxOf,dz,hkj]
          have hka:ez res [(k,false),(j,false)]=true:=by simp[ez,cV.2 hk,cV.2 hj]
          have hoe:gO 0 res.length (dz [(k,false),(j,false)])=true:=by simpa[gO,dz,nz]using⟨⟨hkl,Ne.symm hkj⟩,hjl⟩
          cases hb:jo L M with
          |true=>
           refine ai.Ux (x:=UW) hka hoe (by simp) hargs rfl ?_ (h1 hb)
           rw[hres];exact(ai.eQ (k:=0) rfl (ai.eQ (k:=1) rfl (Fj L M hL))).mono (fun v r hv=>RF hb hv) fun _ _ h=>h
          |false=>
           refine ai.Vu (new:= .arr (some tI) 1 (.it .i64 (de L M))) (F:=fun j=> .sa j) hka hoe (by simp) hargs rfl (by simp) (fun κ=>rfl) ?_ (h2 hb)
           rw[hres];exact(ai.eQ (k:=0) rfl (ai.eQ (k:=1) rfl (Fj L M hL))).mono (fun v r hv=>IW hb hv) fun _ _ h=>h
         ·exact h.elim
        ·exact h.elim
       ·exact h.elim
      ·exact h.elim
     ·exact h.elim
    ·exact h.elim
   ·exact h.elim
  ·exact h.elim
 ·exact h.elim
end Go.Proofs.YtghpaegglbbocaaGreat
