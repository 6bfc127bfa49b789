import Derived.Test.YtlblcfaclmpekaaGreatKS
set_option linter.unusedSimpArgs false
set_option linter.unusedVariables false
namespace Go.Proofs.YtlblcfaclmpekaaGreat
open Go.Sx
theorem RH {P:Program} {f:Nat} {g g':Ct} (h:cV P f g) (ha:∀res nid args q x new,g' res nid args=some (q,x,new)->∃x0,g res nid args=some (q,x0,new)/\(∀J,den J x=den J x0)/\∀K,ok K x0->ok K x):cV P f g':=by
 intro J fps res K w0 F0 w nid args q x new hH hargs hg hq hfr;obtain⟨x0,h1,h2,h3⟩:=ha res nid args q x new hg;obtain⟨c1,c2⟩:=h J fps res K w0 F0 w nid args q x0 new hH hargs h1 hq hfr;refine⟨c1.mono fun e w' ⟨v,he,hv⟩=>⟨v,he,?_⟩,c2⟩
 obtain⟨ρ',hgr,hv,hx⟩:=hv;exact⟨ρ',hgr,by rw[h2];exact hv,h3 _ hx⟩
theorem kP:cV Tryz.prog 42 EV:=by
 refine RH nS fun res nid args q x new h=>?_
 unfold EV at h;split at h
 ·rename_i a;split at h
  ·rename_i o L hr;split at h
   ·simp only[Xm,Xn]at h;obtain⟨rfl,rfl,rfl⟩:=h
    have hL:L= []:=by
     rcases qI hr with⟨_,rfl,_⟩|⟨k,h,_⟩
     ·rfl
     ·simp at h
    subst hL;exact⟨.bo (aP []),by unfold Df Sc;simp only[hr],fun J=>by simp[den,jD],fun _ _=>trivial⟩
   ·simp only[Xm,Xn]at h;obtain⟨rfl,rfl,rfl⟩:=h;exact⟨.bo (aP L),by unfold Df Sc;simp only[hr],fun J=>rfl,fun _ h=>h⟩
  ·simp at h
 ·simp at h
end Go.Proofs.YtlblcfaclmpekaaGreat
namespace Go.Proofs.YtlblcfaclmpekaaGreat
open Go.Sx
set_option maxRecDepth 100000
theorem L3:
 Value.pointer none=Value.pointer none:=by
 rfl
theorem Mb:aj Tryz.prog 33 [gJ] [] (oR gJ) (fun _ _=>False):=bd (inl:=bS) (ann:=aO) (ab kP an) L3 (by kernel_rfl)
theorem Mn (L:List Sx.Obj) (hL:L.length<=1000):
 (aP L=true->aP L=true)/\
  (aP L=false->
   (∃g,
     j4 L g/\
      Value.pointer none=Value.pointer none/\bH (ak L)=bH (ak L)/\0=g/\L=L/\ []=kc L g)/\
    ∀(g:Int),
     j4 L g->
      (decide (g<bH (ak L))=true->
        (0<=g/\g< ↑(ak L))/\
         g.toNat<ak L/\
          g.toNat<ak L/\
           qN (ak (kc L g)) 8/\
            aL IntKind.i64 (g+1)/\
             ∃g',
              j4 L g'/\
               (bH (ak L)-g').toNat<(bH (ak L)-g).toNat/\
                Value.pointer none=Value.pointer none/\
                 bH (ak L)=bH (ak L)/\
                  g+1=g'/\L=L/\gD (kc L g) (ai L g.toNat free)=kc L g')/\
       (decide (g<bH (ak L))=false->aP L=false/\kc L g=L)):=by
 refine⟨fun h=>h,fun h=>⟨⟨0,⟨by omega,by omega⟩,rfl,rfl,rfl,rfl,rfl⟩,fun g hg=>⟨fun hlt=>?_,fun hge=>?_⟩⟩⟩
 ·obtain⟨g0,g1⟩:=hg;have hlt:g<bH (ak L):=Xs hlt;have hn:=gA L;have hle:=kL L;rw[hn]at hlt⊢;have ht:=Is (L:=L) (g:=g);exact⟨⟨g0,by omega⟩,by omega,by omega,Ao (by omega),by simp only[aL,cg];omega,g+1,⟨by omega,by omega⟩,by omega,rfl,rfl,rfl,rfl,Mu g0 hlt⟩
 ·obtain⟨g0,g1⟩:=hg;have hge:¬g<bH (ak L):=Xr hge;rw[gA]at hge;exact⟨h,I9 (by omega)⟩
theorem Mx {L:List Sx.Obj} (hb:aP L=true) {v:V} {r:List aA} (h:CA L v r):vi gJ v []:=by
 unfold CA at h;split at h
 ·split at h
  ·exact fun J K=>rM.refl _ _ _
  ·exact h.elim
 ·split at h
  ·split at h
   ·rw[hb]at h;simp at h
   ·exact h.elim
  ·exact h.elim
 ·exact h.elim
theorem Gx {L:List Sx.Obj} (hb:aP L=false) {v:V} {r:List aA} (h:CA L v r):∃j r',1<=j/\(r'=r\/sS r j=some r')/\ar r' j= .store tS eS L/\∀(κ:Nat->Option Nat) (i:Nat),κ j=some i->jA κ v (.lp i 0):=by
 unfold CA at h;split at h
 ·split at h
  ·rw[hb]at h;simp at h
  ·exact h.elim
 ·split at h
  ·rename_i j off _ t e M hst;split at h
   ·rename_i hc;simp only[Xo,Xq,Nat.ble_eq]at hc;obtain⟨⟨⟨rfl,rfl⟩,rfl⟩,hj⟩:=hc;obtain⟨_,rfl⟩:=h;have ht:∀(κ:Nat->Option Nat) (i:Nat),κ j=some i->jA κ (.lp j 0) (.lp i 0):=fun κ i hi ρ2 ρ3 N N' hv hN hk=>⟨by simp only[den,(hv j i hi).1],hN j i hi hk⟩
    rcases CC hst with h1|⟨r',h1,h2⟩
    ·exact⟨j,r,hj,.inl rfl,h1,ht⟩
    ·exact⟨j,r',hj,.inr h1,h2,ht⟩
   ·exact h.elim
  ·exact h.elim
 ·exact h.elim
theorem NJ {L M:List Sx.Obj} (hb:iT L M=true) {v:V} {r:List aA} (h:Mo L M v r):vi Tm v []:=by
 unfold Mo at h;split at h
 ·split at h
  ·exact fun J K=>rM.refl _ _ _
  ·exact h.elim
 ·split at h
  ·split at h
   ·split at h
    ·split at h
     ·split at h
      ·rw[hb]at h;simp at h
      ·exact h.elim
     ·exact h.elim
    ·exact h.elim
   ·exact h.elim
  ·exact h.elim
 ·exact h.elim
theorem Lg {L M:List Sx.Obj} (hb:iT L M=false) {v:V} {r:List aA} (h:Mo L M v r):∃j,2<=j/\ar r j= .arr (some tI) 1 (.it .i64 (cy L M))/\∀(κ:Nat->Option Nat) (i:Nat),κ j=some i->jA κ v (.sa i):=by
 unfold Mo at h;split at h
 ·split at h
  ·rw[hb]at h;simp at h
  ·exact h.elim
 ·split at h
  ·rename_i hj;split at h
   ·split at h
    ·split at h
     ·split at h
      ·rename_i hc;simp only[Xo,Xq,Nat.ble_eq]at hc;obtain⟨⟨rfl,rfl⟩,hj2⟩:=hc;obtain⟨_,rfl⟩:=h;exact⟨_,hj2,hj,fun κ i hi ρ2 ρ3 N N' hv hN hk=>⟨by simp only[den,(hv _ i hi).2.1,(hv _ i hi).2.2.2.1,(hv _ i hi).2.2.2.2.1],hN _ i hi hk⟩⟩
      ·exact h.elim
     ·exact h.elim
    ·exact h.elim
   ·exact h.elim
  ·exact h.elim
 ·exact h.elim
theorem Cu (L:List Sx.Obj) (hL:L.length<=1000):aj Tryz.prog 33 [.lp 0 0] [.ro (.blk tS (.ag [.sa 1])),.ro (.obs eS 2 L),.gen 1] (CA L) (fun _ _=>False):=bd (inl:=bS) (ann:=(kg [(33,5,W0 [0,2,3,14,15] (fun g=> [(16,.it .i64 g)]) 3 tS eS (kc L) (j4 L) (bH (ak L)))])) (ab kP an) (Mn L hL) (by kernel_rfl)
theorem vr:oU Tryz.prog 33 Kj:=by
 intro args res K KP h;unfold Kj at h;split at h
 ·split at h
  ·split at h
   ·exact aj.pure rfl rfl (Mb.mono (fun _ _ h=>cK h) fun _ _ h=>h) h
   ·exact h.elim
  ·rename_i k off;split at h
   ·rename_i hoff;have hoff:=Xq.1 hoff;subst hoff;split at h
    ·rename_i t e L hr;split at h
     ·rename_i hc;simp only[Xo,Xq]at hc;obtain⟨rfl,rfl⟩:=hc;obtain⟨hL,h1,h2⟩:=h;have hk:=ew hr (by simp)
      have hlt:=aF hk;have hres:eo (ko 0 (de [(k,false)])) res [(k,false)]= [.ro (.store tS eS L)]:=by simp[eo,hr,fZ]
      cases hb:aP L with
      |true=>
       refine aj.QG (pl:= [(k,false)]) (x:=gJ) (args0:= [.lp 0 0]) (by simp[en,cH.2 hk]) (by simpa[iE,de,oS]using hlt) (by simp) (by simp[ee,fh,ko,idxOf,de]) rfl ?_ (h1 hb)
       rw[hres];exact(aj.dL (k:=0) rfl (Cu L hL)).mono (fun v r hv=>Mx hb hv) fun _ _ h=>h
      |false=>
       refine aj.UZ (pl:= [(k,false)]) (new:= .store tS eS L) (F:=fun j=> .lp j 0) (args0:= [.lp 0 0]) (by simp[en,cH.2 hk]) (by simpa[iE,de,oS]using hlt) (by simp) (by simp[ee,fh,ko,idxOf,de]) rfl (by simp) (fun κ=>rfl) ?_ (h2 hb)
       rw[hres];refine aj.dL (k:=0) rfl (aj.shut (Cu L hL) fun v r hv=>?_)
       obtain⟨j,r',hj,h1,h2,h3⟩:=Gx hb hv;rcases h1 with rfl|h1
       ·exact .inl ⟨j,hj,h2,h3⟩
       ·exact .inr ⟨j,r',h1,j,hj,h2,h3⟩
     ·exact h.elim
    ·exact h.elim
   ·exact h.elim
  ·exact h.elim
 ·exact h.elim
theorem Pn (L:List Sx.Obj):
 Value.slice none 0 0=Value.slice none 0 0:=by
 rfl
theorem Pu (L:List Sx.Obj):aj Tryz.prog 43 [gJ,.lp 0 0] [.ro (.store tS eS L)] (oR Tm) (fun _ _=>False):=bd (inl:=bS) (ann:=aO) (ab kP an) (Pn L) (by kernel_rfl)
theorem Nw (L M:List Sx.Obj) (hL:L.length<=1000):
 ((aP L||aP M|| !decide (bH (ak L)=bH (ak M)))=true->iT L M=true)/\
   ((aP L||aP M|| !decide (bH (ak L)=bH (ak M)))=false->
     true=true/\
      true=true/\
       ∀(r0:Loop),
        (∃g,j4 L g/\bH (ak L)=bH (ak L)/\0=g/\L=L/\M=M/\r0=r0/\ []=eg L M g)/\
         ∀(g:Int),
          j4 L g->
           (decide (g<bH (ak L))=true->
             (0<=g/\g< ↑(ak L))/\
              g.toNat<ak L/\
               g.toNat<ak L/\
                (0<=g/\g< ↑(ak M))/\
                 g.toNat<ak M/\
                  g.toNat<ak M/\
                   ((!vk (ai L g.toNat free) (ai M g.toNat free))=true->
                     r0=r0/\
                      r0=r0/\
                       qN (ak (eg L M g)) 8/\
                        r0=r0/\
                         aL IntKind.i64 (g+1)/\
                          ∃g',
                           j4 L g'/\
                            (bH (ak L)-g').toNat<(bH (ak L)-g).toNat/\
                             bH (ak L)=bH (ak L)/\
                              g+1=g'/\
                               L=L/\
                                M=M/\r0=r0/\gD (eg L M g) g=eg L M g')/\
                     ((!vk (ai L g.toNat free) (ai M g.toNat free))=false->
                       aL IntKind.i64 (g+1)/\
                        ∃g',
                         j4 L g'/\
                          (bH (ak L)-g').toNat<(bH (ak L)-g).toNat/\
                           bH (ak L)=bH (ak L)/\
                            g+1=g'/\L=L/\M=M/\r0=r0/\eg L M g=eg L M g'))/\
            (decide (g<bH (ak L))=false->iT L M=false/\eg L M g=cy L M)):=by
 refine⟨fun h=>h,fun h=>⟨rfl,rfl,fun r0=>?_⟩⟩
 have hlm:L.length=M.length:=by
  have h2:((aP L||aP M)|| !decide (bH (ak L)=bH (ak M)))=false:=h
  rw[Bool.or_eq_false_iff]at h2;have h3:=h2.2;rw[gA,gA]at h3;have h4:(L.length:Int)=(M.length:Int):=by simpa using h3
  omega
 have hn:=gA L;have hle:=kL L;have hle2:=kL M;refine⟨⟨0,⟨by omega,by omega⟩,rfl,rfl,rfl,rfl,rfl,rfl⟩,fun g hg=>⟨fun hlt=>?_,fun hge=>?_⟩⟩
 obtain⟨g0,g1⟩:=hg;have hlt:g<bH (ak L):=Xs hlt;rw[hn]at hlt⊢;have ht:=BR (L:=L) (M:=M) (g:=g);have hr:aL IntKind.i64 (g+1):=by simp only[aL,cg];omega
 exact⟨⟨g0,by omega⟩,by omega,by omega,⟨g0,by omega⟩,by omega,by omega,fun h=>⟨rfl,rfl,Ao (by omega),rfl,hr,g+1,⟨by omega,by omega⟩,by omega,rfl,rfl,rfl,rfl,rfl,BJ g0 h⟩,fun h=>⟨hr,g+1,⟨by omega,by omega⟩,by omega,rfl,rfl,rfl,rfl,rfl,ET g0 h⟩⟩
 obtain⟨g0,g1⟩:=hg;have hge:¬g<bH (ak L):=Xr hge;rw[hn]at hge;exact⟨h,by unfold cy;rw[show g=(ak L:Int) by omega]⟩
theorem Ez (L M:List Sx.Obj) (hL:L.length<=1000):aj Tryz.prog 43 [.lp 0 0,.lp 1 0] [.ro (.blk tS (.ag [.sa 2])),.ro (.blk tS (.ag [.sa 4])),.ro (.obs eS 3 L),.gen 2,.ro (.obs eS 5 M),.gen 4] (Mo L M) (fun _ _=>False):=bd (inl:=(fun f=>f==43||f==66)) (ann:=(kg [(6000+103,1,Vt [0,1,2,6] (fun g=> [(7,.it .i64 g)]) 6 103 tI 1 (fun g=> .it .i64 (eg L M g)) (j4 L) (bH (ak L)))])) (ab kP an) (Nw L M hL) (by kernel_rfl)
theorem Ee:oU Tryz.prog 43 Qe:=by
 intro args res K KP h;unfold Qe at h;split at h
 ·rename_i a b;split at h
  ·rename_i j off;split at h
   ·rename_i hoff;have hoff:=Xq.1 hoff;subst hoff;split at h
    ·rename_i t e M hr;split at h
     ·rename_i hc;simp only[Xo,Xq]at hc;obtain⟨rfl,rfl⟩:=hc;have hj:=ew hr (by simp)
      have hjl:=aF hj;split at h
      ·split at h
       ·have hres:eo (ko 0 (de [(j,false)])) res [(j,false)]= [.ro (.store tS eS M)]:=by simp[eo,hr,fZ]
        refine aj.QG (pl:= [(j,false)]) (x:=Tm) (args0:= [gJ,.lp 0 0]) (by simp[en,cH.2 hj]) (by simpa[iE,de,oS]using hjl) (by simp) (by simp[ee,fh,ko,idxOf,de,gJ]) rfl ?_ h
        rw[hres];exact(Pu M).mono (fun _ _ h=>cK h) fun _ _ h=>h
       ·exact h.elim
      ·rename_i k off';split at h
       ·rename_i hoff;simp only[Xo,Xq,Bool.not_eq_true',beq_eq_false_iff_ne]at hoff;obtain⟨rfl,hkj⟩:=hoff;split at h
        ·rename_i t' e' L hrk;split at h
         ·rename_i hc;simp only[Xo,Xq]at hc;obtain⟨rfl,rfl⟩:=hc;obtain⟨hL,h1,h2⟩:=h;have hk:=ew hrk (by simp)
          have hkl:=aF hk;have hres:eo (ko 0 (de [(k,false),(j,false)])) res [(k,false),(j,false)]= [.ro (.store tS eS L),.ro (.store tS eS M)]:=by simp[eo,hr,hrk,fZ]
          have hargs:ee (ko 0 (de [(k,false),(j,false)])) [.lp k 0,.lp j 0]=some [.lp 0 0,.lp 1 0]:=by
           simp[ee,fh,ko,idxOf,de,hkj]
          have hka:en res [(k,false),(j,false)]=true:=by simp[en,cH.2 hk,cH.2 hj]
          have hoe:iE 0 res.length (de [(k,false),(j,false)])=true:=by simpa[iE,de,oS]using⟨⟨hkl,Ne.symm hkj⟩,hjl⟩
          cases hb:iT L M with
          |true=>
           refine aj.QG (x:=Tm) hka hoe (by simp) hargs rfl ?_ (h1 hb)
           rw[hres];exact(aj.dL (k:=0) rfl (aj.dL (k:=1) rfl (Ez L M hL))).mono (fun v r hv=>NJ hb hv) fun _ _ h=>h
          |false=>
           refine aj.UZ (new:= .arr (some tI) 1 (.it .i64 (cy L M))) (F:=fun j=> .sa j) hka hoe (by simp) hargs rfl (by simp) (fun κ=>rfl) ?_ (h2 hb)
           rw[hres];exact(aj.dL (k:=0) rfl (aj.dL (k:=1) rfl (Ez L M hL))).mono (fun v r hv=>Lg hb hv) fun _ _ h=>h
         ·exact h.elim
        ·exact h.elim
       ·exact h.elim
      ·exact h.elim
     ·exact h.elim
    ·exact h.elim
   ·exact h.elim
  ·exact h.elim
 ·exact h.elim
end Go.Proofs.YtlblcfaclmpekaaGreat
