import Derived.Test.YtghpaegglbbocaaGreatKS
set_option linter.unusedSimpArgs false
set_option linter.unusedVariables false
namespace Go.Proofs.YtghpaegglbbocaaGreat
open Go.Sx
theorem O2 {P:Program} {f:Nat} {g g':Ct} (h:cW P f g) (ha:∀res nid args q x new,g' res nid args=some (q,x,new)->∃x0,g res nid args=some (q,x0,new)/\(∀J,den J x=den J x0)/\∀K,ok K x0->ok K x):cW P f g':=by
 intro J fps res K w0 F0 w nid args q x new hH hargs hg hq hfr;obtain⟨x0,h1,h2,h3⟩:=ha res nid args q x new hg;obtain⟨c1,c2⟩:=h J fps res K w0 F0 w nid args q x0 new hH hargs h1 hq hfr;refine⟨c1.mono fun e w' ⟨v,he,hv⟩=>⟨v,he,?_⟩,c2⟩
 obtain⟨ρ',hgr,hv,hx⟩:=hv;exact⟨ρ',hgr,by rw[h2];exact hv,h3 _ hx⟩
theorem qx:cW Tryz.prog 34 CB:=by
 refine O2 mO fun res nid args q x new h=>?_
 unfold CB at h;split at h
 ·rename_i a;split at h
  ·rename_i o L hr;split at h
   ·simp only[Tf,Tg]at h;obtain⟨rfl,rfl,rfl⟩:=h
    have hL:L= []:=by
     rcases tX hr with⟨_,rfl,_⟩|⟨k,h,_⟩
     ·rfl
     ·simp at h
    subst hL;exact⟨.bo (bg []),by unfold Cb N5;simp only[hr],fun J=>by simp[den,oX],fun _ _=>trivial⟩
   ·simp only[Tf,Tg]at h;obtain⟨rfl,rfl,rfl⟩:=h;exact⟨.bo (bg L),by unfold Cb N5;simp only[hr],fun J=>rfl,fun _ h=>h⟩
  ·simp at h
 ·simp at h
end Go.Proofs.YtghpaegglbbocaaGreat
namespace Go.Proofs.YtghpaegglbbocaaGreat
open Go.Sx
set_option maxRecDepth 100000
theorem GU:
 Value.pointer none=Value.pointer none:=by
 rfl
theorem IW:ai Tryz.prog 157 [kS] [] (rm kS) (fun _ _=>False):=bh (inl:=bM) (ann:=aL) (ab qx ak) GU (by kernel_rfl)
theorem HK (L:List Sx.Obj) (hL:L.length<=1000):
 (bg L=true->bg L=true)/\
  (bg L=false->
   (∃g,
     nh L g/\
      Value.pointer none=Value.pointer none/\en (aE L)=en (aE L)/\0=g/\L=L/\ []=jC L g)/\
    ∀(g:Int),
     nh L g->
      (decide (g<en (aE L))=true->
        (0<=g/\g< ↑(aE L))/\
         g.toNat<aE L/\
          g.toNat<aE L/\
           tP (aE (jC L g)) 8/\
            aQ IntKind.i64 (g+1)/\
             ∃g',
              nh L g'/\
               (en (aE L)-g').toNat<(en (aE L)-g).toNat/\
                Value.pointer none=Value.pointer none/\
                 en (aE L)=en (aE L)/\
                  g+1=g'/\L=L/\gL (jC L g) (aq L g.toNat free)=jC L g')/\
       (decide (g<en (aE L))=false->bg L=false/\jC L g=L)):=by
 refine⟨fun h=>h,fun h=>⟨⟨0,⟨by omega,by omega⟩,rfl,rfl,rfl,rfl,rfl⟩,fun g hg=>⟨fun hlt=>?_,fun hge=>?_⟩⟩⟩
 ·obtain⟨g0,g1⟩:=hg;have hlt:g<en (aE L):=Tl hlt;have hn:=jd L;have hle:=mr L;rw[hn]at hlt⊢;have ht:=Fc (L:=L) (g:=g);exact⟨⟨g0,by omega⟩,by omega,by omega,DI (by omega),by simp only[aQ,cy];omega,g+1,⟨by omega,by omega⟩,by omega,rfl,rfl,rfl,rfl,G3 g0 hlt⟩
 ·obtain⟨g0,g1⟩:=hg;have hge:¬g<en (aE L):=Tk hge;rw[jd]at hge;exact⟨h,FB (by omega)⟩
theorem FT {L:List Sx.Obj} (hb:bg L=true) {v:V} {r:List aw} (h:zV L v r):wh kS v []:=by
 unfold zV at h;split at h
 ·split at h
  ·exact fun J K=>qh.refl _ _ _
  ·exact h.elim
 ·split at h
  ·split at h
   ·rw[hb]at h;simp at h
   ·exact h.elim
  ·exact h.elim
 ·exact h.elim
theorem EP {L:List Sx.Obj} (hb:bg L=false) {v:V} {r:List aw} (h:zV L v r):∃j r',1<=j/\(r'=r\/qH r j=some r')/\aj r' j= .store tS eS L/\∀(κ:Nat->Option Nat) (i:Nat),κ j=some i->jn κ v (.lp i 0):=by
 unfold zV at h;split at h
 ·split at h
  ·rw[hb]at h;simp at h
  ·exact h.elim
 ·split at h
  ·rename_i j off _ t e M hst;split at h
   ·rename_i hc;simp only[Th,Tj,Nat.ble_eq]at hc;obtain⟨⟨⟨rfl,rfl⟩,rfl⟩,hj⟩:=hc;obtain⟨_,rfl⟩:=h;have ht:∀(κ:Nat->Option Nat) (i:Nat),κ j=some i->jn κ (.lp j 0) (.lp i 0):=fun κ i hi ρ2 ρ3 N N' hv hN hk=>⟨by simp only[den,(hv j i hi).1],hN j i hi hk⟩
    rcases Ad hst with h1|⟨r',h1,h2⟩
    ·exact⟨j,r,hj,.inl rfl,h1,ht⟩
    ·exact⟨j,r',hj,.inr h1,h2,ht⟩
   ·exact h.elim
  ·exact h.elim
 ·exact h.elim
theorem KG {L M:List Sx.Obj} (hb:ie L M=true) {v:V} {r:List aw} (h:Gz L M v r):wh PW v []:=by
 unfold Gz at h;split at h
 ·split at h
  ·exact fun J K=>qh.refl _ _ _
  ·exact h.elim
 ·split at h
  ·split at h
   ·split at h
    ·split at h
     ·split at h
      ·rw[hb]at h;simp at h
      ·exact h.elim
     ·exact h.elim
    ·exact h.elim
   ·exact h.elim
  ·exact h.elim
 ·exact h.elim
theorem FC {L M:List Sx.Obj} (hb:ie L M=false) {v:V} {r:List aw} (h:Gz L M v r):∃j,2<=j/\aj r j= .arr (some tI) 1 (.it .i64 (cz L M))/\∀(κ:Nat->Option Nat) (i:Nat),κ j=some i->jn κ v (.sa i):=by
 unfold Gz at h;split at h
 ·split at h
  ·rw[hb]at h;simp at h
  ·exact h.elim
 ·split at h
  ·rename_i hj;split at h
   ·split at h
    ·split at h
     ·split at h
      ·rename_i hc;simp only[Th,Tj,Nat.ble_eq]at hc;obtain⟨⟨rfl,rfl⟩,hj2⟩:=hc;obtain⟨_,rfl⟩:=h;exact⟨_,hj2,hj,fun κ i hi ρ2 ρ3 N N' hv hN hk=>⟨by simp only[den,(hv _ i hi).2.1,(hv _ i hi).2.2.2.1,(hv _ i hi).2.2.2.2.1],hN _ i hi hk⟩⟩
      ·exact h.elim
     ·exact h.elim
    ·exact h.elim
   ·exact h.elim
  ·exact h.elim
 ·exact h.elim
theorem AA (L:List Sx.Obj) (hL:L.length<=1000):ai Tryz.prog 157 [.lp 0 0] [.ro (.blk tS (.ag [.sa 1])),.ro (.obs eS 2 L),.gen 1] (zV L) (fun _ _=>False):=bh (inl:=bM) (ann:=(me [(157,5,SQ [0,2,3,14,15] (fun g=> [(16,.it .i64 g)]) 3 tS eS (jC L) (nh L) (en (aE L)))])) (ab qx ak) (HK L hL) (by kernel_rfl)
theorem yi:ql Tryz.prog 157 H8:=by
 intro args res K KP h;unfold H8 at h;split at h
 ·split at h
  ·split at h
   ·exact ai.pure rfl rfl (IW.mono (fun _ _ h=>dB h) fun _ _ h=>h) h
   ·exact h.elim
  ·rename_i k off;split at h
   ·rename_i hoff;have hoff:=Tj.1 hoff;subst hoff;split at h
    ·rename_i t e L hr;split at h
     ·rename_i hc;simp only[Th,Tj]at hc;obtain⟨rfl,rfl⟩:=hc;obtain⟨hL,h1,h2⟩:=h;have hk:=dY hr (by simp)
      have hlt:=aF hk;have hres:ei (jO 0 (de [(k,false)])) res [(k,false)]= [.ro (.store tS eS L)]:=by simp[ei,hr,fI]
      cases hb:bg L with
      |true=>
       refine ai.NO (pl:= [(k,false)]) (x:=kS) (args0:= [.lp 0 0]) (by simp[ej,cS.2 hk]) (by simpa[iq,de,nF]using hlt) (by simp) (by simp[ef,fh,jO,idxOf,de]) rfl ?_ (h1 hb)
       rw[hres];exact(ai.dZ (k:=0) rfl (AA L hL)).mono (fun v r hv=>FT hb hv) fun _ _ h=>h
      |false=>
       refine ai.QX (pl:= [(k,false)]) (new:= .store tS eS L) (F:=fun j=> .lp j 0) (args0:= [.lp 0 0]) (by simp[ej,cS.2 hk]) (by simpa[iq,de,nF]using hlt) (by simp) (by simp[ef,fh,jO,idxOf,de]) rfl (by simp) (fun κ=>rfl) ?_ (h2 hb)
       rw[hres];refine ai.dZ (k:=0) rfl (ai.shut (AA L hL) fun v r hv=>?_)
       obtain⟨j,r',hj,h1,h2,h3⟩:=EP hb hv;rcases h1 with rfl|h1
       ·exact .inl ⟨j,hj,h2,h3⟩
       ·exact .inr ⟨j,r',h1,j,hj,h2,h3⟩
     ·exact h.elim
    ·exact h.elim
   ·exact h.elim
  ·exact h.elim
 ·exact h.elim
theorem Kq (L:List Sx.Obj):
 Value.slice none 0 0=Value.slice none 0 0:=by
 rfl
theorem My (L:List Sx.Obj):ai Tryz.prog 164 [kS,.lp 0 0] [.ro (.store tS eS L)] (rm PW) (fun _ _=>False):=bh (inl:=bM) (ann:=aL) (ab qx ak) (Kq L) (by kernel_rfl)
theorem KS (L M:List Sx.Obj) (hL:L.length<=1000):
 ((bg L||bg M|| !decide (en (aE L)=en (aE M)))=true->ie L M=true)/\
   ((bg L||bg M|| !decide (en (aE L)=en (aE M)))=false->
     true=true/\
      true=true/\
       ∀(r0:Loop),
        (∃g,nh L g/\en (aE L)=en (aE L)/\0=g/\L=L/\M=M/\r0=r0/\ []=fN L M g)/\
         ∀(g:Int),
          nh L g->
           (decide (g<en (aE L))=true->
             (0<=g/\g< ↑(aE L))/\
              g.toNat<aE L/\
               g.toNat<aE L/\
                (0<=g/\g< ↑(aE M))/\
                 g.toNat<aE M/\
                  g.toNat<aE M/\
                   ((!AE (aq L g.toNat free) (aq M g.toNat free))=true->
                     r0=r0/\
                      r0=r0/\
                       tP (aE (fN L M g)) 8/\
                        r0=r0/\
                         aQ IntKind.i64 (g+1)/\
                          ∃g',
                           nh L g'/\
                            (en (aE L)-g').toNat<(en (aE L)-g).toNat/\
                             en (aE L)=en (aE L)/\
                              g+1=g'/\
                               L=L/\
                                M=M/\r0=r0/\gL (fN L M g) g=fN L M g')/\
                     ((!AE (aq L g.toNat free) (aq M g.toNat free))=false->
                       aQ IntKind.i64 (g+1)/\
                        ∃g',
                         nh L g'/\
                          (en (aE L)-g').toNat<(en (aE L)-g).toNat/\
                           en (aE L)=en (aE L)/\
                            g+1=g'/\L=L/\M=M/\r0=r0/\fN L M g=fN L M g'))/\
            (decide (g<en (aE L))=false->ie L M=false/\fN L M g=cz L M)):=by
 refine⟨fun h=>h,fun h=>⟨rfl,rfl,fun r0=>?_⟩⟩
 have hlm:L.length=M.length:=by
  have h2:((bg L||bg M)|| !decide (en (aE L)=en (aE M)))=false:=h
  rw[Bool.or_eq_false_iff]at h2;have h3:=h2.2;rw[jd,jd]at h3;have h4:(L.length:Int)=(M.length:Int):=by simpa using h3
  omega
 have hn:=jd L;have hle:=mr L;have hle2:=mr M;refine⟨⟨0,⟨by omega,by omega⟩,rfl,rfl,rfl,rfl,rfl,rfl⟩,fun g hg=>⟨fun hlt=>?_,fun hge=>?_⟩⟩
 obtain⟨g0,g1⟩:=hg;have hlt:g<en (aE L):=Tl hlt;rw[hn]at hlt⊢;have ht:=Je (L:=L) (M:=M) (g:=g);have hr:aQ IntKind.i64 (g+1):=by simp only[aQ,cy];omega
 exact⟨⟨g0,by omega⟩,by omega,by omega,⟨g0,by omega⟩,by omega,by omega,fun h=>⟨rfl,rfl,DI (by omega),rfl,hr,g+1,⟨by omega,by omega⟩,by omega,rfl,rfl,rfl,rfl,rfl,HL g0 h⟩,fun h=>⟨hr,g+1,⟨by omega,by omega⟩,by omega,rfl,rfl,rfl,rfl,rfl,Ls g0 h⟩⟩
 obtain⟨g0,g1⟩:=hg;have hge:¬g<en (aE L):=Tk hge;rw[hn]at hge;exact⟨h,by unfold cz;rw[show g=(aE L:Int) by omega]⟩
theorem Dx (L M:List Sx.Obj) (hL:L.length<=1000):ai Tryz.prog 164 [.lp 0 0,.lp 1 0] [.ro (.blk tS (.ag [.sa 2])),.ro (.blk tS (.ag [.sa 4])),.ro (.obs eS 3 L),.gen 2,.ro (.obs eS 5 M),.gen 4] (Gz L M) (fun _ _=>False):=bh (inl:=(fun f=>f==164||f==187)) (ann:=(me [(6000+194,1,S7 [0,1,2,6] (fun g=> [(7,.it .i64 g)]) 6 197 tI 1 (fun g=> .it .i64 (fN L M g)) (nh L) (en (aE L)))])) (ab qx ak) (KS L M hL) (by kernel_rfl)
theorem BI:ql Tryz.prog 164 Nd:=by
 intro args res K KP h;unfold Nd at h;split at h
 ·rename_i a b;split at h
  ·rename_i j off;split at h
   ·rename_i hoff;have hoff:=Tj.1 hoff;subst hoff;split at h
    ·rename_i t e M hr;split at h
     ·rename_i hc;simp only[Th,Tj]at hc;obtain⟨rfl,rfl⟩:=hc;have hj:=dY hr (by simp)
      have hjl:=aF hj;split at h
      ·split at h
       ·have hres:ei (jO 0 (de [(j,false)])) res [(j,false)]= [.ro (.store tS eS M)]:=by simp[ei,hr,fI]
        refine ai.NO (pl:= [(j,false)]) (x:=PW) (args0:= [kS,.lp 0 0]) (by simp[ej,cS.2 hj]) (by simpa[iq,de,nF]using hjl) (by simp) (by simp[ef,fh,jO,idxOf,de,kS]) rfl ?_ h
        rw[hres];exact(My M).mono (fun _ _ h=>dB h) fun _ _ h=>h
       ·exact h.elim
      ·rename_i k off';split at h
       ·rename_i hoff;simp only[Th,Tj,Bool.not_eq_true',beq_eq_false_iff_ne]at hoff;obtain⟨rfl,hkj⟩:=hoff;split at h
        ·rename_i t' e' L hrk;split at h
         ·rename_i hc;simp only[Th,Tj]at hc;obtain⟨rfl,rfl⟩:=hc;obtain⟨hL,h1,h2⟩:=h;have hk:=dY hrk (by simp)
          have hkl:=aF hk;have hres:ei (jO 0 (de [(k,false),(j,false)])) res [(k,false),(j,false)]= [.ro (.store tS eS L),.ro (.store tS eS M)]:=by simp[ei,hr,hrk,fI]
          have hargs:ef (jO 0 (de [(k,false),(j,false)])) [.lp k 0,.lp j 0]=some [.lp 0 0,.lp 1 0]:=by
           simp[ef,fh,jO,idxOf,de,hkj]
          have hka:ej res [(k,false),(j,false)]=true:=by simp[ej,cS.2 hk,cS.2 hj]
          have hoe:iq 0 res.length (de [(k,false),(j,false)])=true:=by simpa[iq,de,nF]using⟨⟨hkl,Ne.symm hkj⟩,hjl⟩
          cases hb:ie L M with
          |true=>
           refine ai.NO (x:=PW) hka hoe (by simp) hargs rfl ?_ (h1 hb)
           rw[hres];exact(ai.dZ (k:=0) rfl (ai.dZ (k:=1) rfl (Dx L M hL))).mono (fun v r hv=>KG hb hv) fun _ _ h=>h
          |false=>
           refine ai.QX (new:= .arr (some tI) 1 (.it .i64 (cz L M))) (F:=fun j=> .sa j) hka hoe (by simp) hargs rfl (by simp) (fun κ=>rfl) ?_ (h2 hb)
           rw[hres];exact(ai.dZ (k:=0) rfl (ai.dZ (k:=1) rfl (Dx L M hL))).mono (fun v r hv=>FC hb hv) fun _ _ h=>h
         ·exact h.elim
        ·exact h.elim
       ·exact h.elim
      ·exact h.elim
     ·exact h.elim
    ·exact h.elim
   ·exact h.elim
  ·exact h.elim
 ·exact h.elim
end Go.Proofs.YtghpaegglbbocaaGreat
