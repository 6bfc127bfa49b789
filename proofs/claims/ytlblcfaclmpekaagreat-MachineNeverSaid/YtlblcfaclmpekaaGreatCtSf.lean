import Derived.Test.YtlblcfaclmpekaaGreatCtSb
import Derived.Test.YtlblcfaclmpekaaGreatSpMe
import Derived.Test.YtlblcfaclmpekaaGreatCtQs
set_option linter.unusedSimpArgs false
set_option linter.unusedVariables false
namespace Go.Proofs.YtlblcfaclmpekaaGreat
open Go.Sx
set_option maxRecDepth 100000
theorem NT (l:List Sx.Obj):
 ((decide (20<bH (ak l))|| !eE l)=true->lP l=false/\Value.pointer none=Value.pointer none)/\((decide (20<bH (ak l))|| !eE l)=false->true=true/\(eE l=false
   ->lP l=false/\Value.pointer none=Value.pointer none)/\(eE l=true->lP l=true/\∀(nid:Nat),some (V.lp nid 0)=some (V.lp nid 0)/\some [aA.store 102 106 l]=some [aA.store
   102 106 l])):=by
 refine⟨fun h=>⟨?_,rfl⟩,fun h=>⟨rfl,fun hr=>⟨?_,rfl⟩,fun hr=>⟨?_,fun nid=>⟨rfl,rfl⟩⟩⟩⟩
 ·unfold lP;unfold bH at h;rw[Bool.or_eq_true,Xp,Bool.not_eq_true']at h;rcases h with h|h
  ·rw[decide_eq_false (by omega)];rfl
  ·rw[h];simp
 ·unfold lP;rw[hr];simp
 ·unfold lP;unfold bH at h;rw[hr]at h⊢;rw[Bool.and_true,Xp];simp at h;omega
theorem OE:oU Tryz.prog 22 Si:=
 IQ (aM RN dM) (fun _=>rfl) (fun _=>by simp) fun a _ hok=>by
  obtain⟨l,_⟩:=a;exact bK (inl:=bS) (ann:=aO) (ab Lx an) (aC UG az) (NT l) (by kernel_rfl)
theorem O7 (l:List Sx.Obj) (x:List ke) (ks:List Key) (hx:Aq x):
 true=true/\True/\(lP l=false->true=true)/\(lP l=true->Dq (oD x)/\((pj (oD x)||decide (bH (ak l)<4)||decide (20<bH (ak ks)))=true->true=true)/\
  ((pj (oD x)||decide (bH (ak l)<4)||decide (20<bH (ak ks)))=false->true=true/\(decide (ah l=0)=true->false=true)/\(decide (ah l=0)=false->((decide (ah l
  <4)||false||false)=true->false=true)/\((decide (ah l<4)||false||false)=false->true=true/\(ak l).le 1000/\(aP l=true->EK (bH (ak ks)) (bH (ak ks)) 1/\(∃
  g,lB x ks g/\False)/\∀(g:Int×Int×List Sx.Obj×List Bool),lB x ks g->(decide (g.fst<bH (ak x))=true->true=true/\true=true/\False)/\(decide (g.fst<bH (ak x))=
  false->true=true))/\(aP l=false->EK (bH (ak ks)) (bH (ak ks)) 1/\(∃g,lB x ks g/\0=g.fst/\l=l/\ak x=ak x/\(jg x=jg x)/\ks=ks/\false=false/\l=
  g.snd.snd.fst/\0=g.snd.fst/\nk (bH (ak ks)).toNat false=g.snd.snd.snd)/\∀(g:Int×Int×List Sx.Obj×List Bool),lB x ks g->(decide (g.fst<bH (ak x))=true->true=true/\
  true=true/\true=true/\(ak g.snd.snd.fst).le 1000/\(aP g.snd.snd.fst=true->(0<=g.fst/\g.fst< ↑(ak x))/\g.fst.toNat<ak x/\true=true/\(aq g.snd.snd.fst/\aw (ai x
  g.fst.toNat nL).data/\gH g.snd.fst)/\true=true/\true=true/\true=true/\(ak (gR x g)).le 1000/\(aP (gR x g)=true->((!decide (Hu x g=0)||decide ((dJ x g).out=3)||
  decide ((dJ x g).out=1))=true->oX []/\oX [])/\(((!decide (Hu x g=0)||decide ((dJ x g).out=3)||decide ((dJ x g).out=1))&& !eA [] [])=true->false=true)/\(((!decide
  (Hu x g=0)||decide ((dJ x g).out=3)||decide ((dJ x g).out=1))&& !eA [] [])=false->true=true/\true=true/\∀(r0:Loop),(∃g_1,jR g_1/\ah []=ah []/\0=g_1/\
  l=l/\ak x=ak x/\(jg x=jg x)/\ks=ks/\false=false/\C9 x g=C9 x g/\g.snd.snd.snd=g.snd.snd.snd/\Value.pointer none=Value.pointer none/\(dJ x g).out=(dJ x g).out/\
  (dJ x g).proc=(dJ x g).proc/\(dJ x g).err=(dJ x g).err/\(dJ x g).ans.code=(dJ x g).ans.code/\(dJ x g).ans.data=(dJ x g).ans.data/\(dJ x g).ans.k0=(dJ x g).ans.k0/\(dJ x
  g).ans.k1=(dJ x g).ans.k1/\(dJ x g).ans.k2=(dJ x g).ans.k2/\(dJ x g).wants=(dJ x g).wants/\Value.pointer none=Value.pointer none/\gR x g=gR x g/\r0=r0)/\∀(g_1:Int),jR
  g_1->(decide (g_1<ah [])=true->False)/\(decide (g_1<ah [])=false->(∃g,iW ks g/\False)/\∀(g_2:Int×List Bool×Int×List Sx.Obj×List Sx.Obj),iW ks g_2->(decide
  (g_2.fst<bH (ak ks))=true->False)/\(decide (g_2.fst<bH (ak ks))=false->aL IntKind.i64 (g.fst+1)/\∃g',lB x ks g'/\mZ x g'<mZ x g/\g.fst+1=g'.fst/\l=l/\
  ak x=ak x/\(jg x=jg x)/\ks=ks/\false=false/\g_2.snd.snd.snd.snd=g'.snd.snd.fst/\g_2.snd.snd.fst=g'.snd.fst/\g_2.snd.fst=g'.snd.snd.snd))))/\(aP (gR x g)=false->
  ((!decide (Hu x g=0)||decide ((dJ x g).out=3)||decide ((dJ x g).out=1))=true->oX []/\oX (gR x g))/\(((!decide (Hu x g=0)||decide ((dJ x g).out=3)||decide ((dJ x
  g).out=1))&& !eA [] (gR x g))=true->false=true)/\(((!decide (Hu x g=0)||decide ((dJ x g).out=3)||decide ((dJ x g).out=1))&& !eA [] (gR x g))=false->true=true/\
  true=true/\∀(r0:Loop),(∃g_1,jR g_1/\ah (gR x g)=ah (gR x g)/\0=g_1/\l=l/\ak x=ak x/\(jg x=jg x)/\ks=ks/\false=false/\C9 x g=C9 x g/\
  g.snd.snd.snd=g.snd.snd.snd/\Value.pointer none=Value.pointer none/\(dJ x g).out=(dJ x g).out/\(dJ x g).proc=(dJ x g).proc/\(dJ x g).err=(dJ x g).err/\(dJ x g).ans.code=(dJ x
  g).ans.code/\(dJ x g).ans.data=(dJ x g).ans.data/\(dJ x g).ans.k0=(dJ x g).ans.k0/\(dJ x g).ans.k1=(dJ x g).ans.k1/\(dJ x g).ans.k2=(dJ x g).ans.k2/\(dJ x g).wants=(dJ x
  g).wants/\gR x g=gR x g/\gR x g=gR x g/\r0=r0)/\∀(g_1:Int),jR g_1->(decide (g_1<ah (gR x g))=true->(0<=g_1/\g_1< ↑(ak (gR x g)))/\g_1.toNat<ak (gR x g)/\
  g_1.toNat<ak (gR x g)/\r0=r0/\r0=r0/\((decide ((ai (gR x g) g_1.toNat free).count<(au [] g_1).count)||decide ((au [] g_1).kind=3)&& !vk (ai (gR x g) g_1.toNat free)
  (au [] g_1)||decide ((ai (gR x g) g_1.toNat free).count=(au [] g_1).count)&&decide ((ai (gR x g) g_1.toNat free).kind=1)&&decide ((au [] g_1).kind=1)&&decide ((ai (gR x
  g) g_1.toNat free).calls<(au [] g_1).calls))=true->r0=r0/\false=true)/\((decide ((ai (gR x g) g_1.toNat free).count<(au [] g_1).count)||decide ((au [] g_1).kind=3)&& !vk
  (ai (gR x g) g_1.toNat free) (au [] g_1)||decide ((ai (gR x g) g_1.toNat free).count=(au [] g_1).count)&&decide ((ai (gR x g) g_1.toNat free).kind=1)&&decide ((au []
  g_1).kind=1)&&decide ((ai (gR x g) g_1.toNat free).calls<(au [] g_1).calls))=false->r0=r0/\aL IntKind.i64 (g_1+1)/\∃g',jR g'/\(64-g').toNat<(64-g_1).toNat/\ah
  (gR x g)=ah (gR x g)/\g_1+1=g'/\l=l/\ak x=ak x/\(jg x=jg x)/\ks=ks/\false=false/\C9 x g=C9 x g/\g.snd.snd.snd=g.snd.snd.snd/\Value.pointer none=
  Value.pointer none/\(dJ x g).out=(dJ x g).out/\(dJ x g).proc=(dJ x g).proc/\(dJ x g).err=(dJ x g).err/\(dJ x g).ans.code=(dJ x g).ans.code/\(dJ x g).ans.data=(dJ x g).ans.data
  /\(dJ x g).ans.k0=(dJ x g).ans.k0/\(dJ x g).ans.k1=(dJ x g).ans.k1/\(dJ x g).ans.k2=(dJ x g).ans.k2/\(dJ x g).wants=(dJ x g).wants/\gR x g=gR x g/\gR x g=gR x g/\r0=r0))
  /\(decide (g_1<ah (gR x g))=false->(∃g,iW ks g/\False)/\∀(g_2:Int×List Bool×Int×List Sx.Obj×List Sx.Obj),iW ks g_2->(decide (g_2.fst<bH (ak ks))=true->
  False)/\(decide (g_2.fst<bH (ak ks))=false->aL IntKind.i64 (g.fst+1)/\∃g',lB x ks g'/\mZ x g'<mZ x g/\g.fst+1=g'.fst/\l=l/\ak x=ak x/\(jg x=jg x)/\
  ks=ks/\false=false/\g_2.snd.snd.snd.snd=g'.snd.snd.fst/\g_2.snd.snd.fst=g'.snd.fst/\g_2.snd.fst=g'.snd.snd.snd)))))/\(aP g.snd.snd.fst=false->(0<=g.fst/\g.fst< ↑(ak x))/\
  g.fst.toNat<ak x/\true=true/\(aq g.snd.snd.fst/\aw (ai x g.fst.toNat nL).data/\gH g.snd.fst)/\true=true/\true=true/\true=true/\(ak (gR x g)).le 1000/\(aP
  (gR x g)=true->((!decide (Hu x g=0)||decide ((dJ x g).out=3)||decide ((dJ x g).out=1))=true->oX g.snd.snd.fst/\oX [])/\(((!decide (Hu x g=0)||decide ((dJ x g).out=3)
  ||decide ((dJ x g).out=1))&& !eA g.snd.snd.fst [])=true->false=true)/\(((!decide (Hu x g=0)||decide ((dJ x g).out=3)||decide ((dJ x g).out=1))&& !eA g.snd.snd.fst [])=
  false->true=true/\true=true/\∀(r0:Loop),(∃g_1,jR g_1/\ah []=ah []/\0=g_1/\l=l/\ak x=ak x/\(jg x=jg x)/\ks=ks/\false=false/\C9 x g=C9 x g/\
  g.snd.snd.snd=g.snd.snd.snd/\(dJ x g).out=(dJ x g).out/\(dJ x g).proc=(dJ x g).proc/\(dJ x g).err=(dJ x g).err/\(dJ x g).ans.code=(dJ x g).ans.code/\(dJ x g).ans.data=(dJ x
  g).ans.data/\(dJ x g).ans.k0=(dJ x g).ans.k0/\(dJ x g).ans.k1=(dJ x g).ans.k1/\(dJ x g).ans.k2=(dJ x g).ans.k2/\(dJ x g).wants=(dJ x g).wants/\Value.pointer none=Value.pointer
  none/\g.snd.snd.fst=g.snd.snd.fst/\gR x g=gR x g/\r0=r0)/\∀(g_1:Int),jR g_1->(decide (g_1<ah [])=true->False)/\(decide (g_1<ah [])=false->(∃g,iW ks g/\
  False)/\∀(g_2:Int×List Bool×Int×List Sx.Obj×List Sx.Obj),iW ks g_2->(decide (g_2.fst<bH (ak ks))=true->(0<=g_2.fst/\g_2.fst< ↑(ak ks))/\g_2.fst.toNat<ak ks/\(0<=
  g_2.fst/\g_2.fst< ↑(ak ks))/\g_2.fst.toNat<ak ks/\(0<=g_2.fst/\g_2.fst< ↑(ak g_2.snd.fst))/\g_2.fst.toNat<ak g_2.snd.fst/\(0<=g_2.fst/\g_2.fst< ↑(ak g_2.snd.fst))/\
  g_2.fst.toNat<ak g_2.snd.fst/\(0<=g_2.fst/\g_2.fst< ↑(ak (bX g_2.snd.fst g_2.fst.toNat (ai g_2.snd.fst g_2.fst.toNat false||aI g_2.snd.snd.snd.fst (ai ks g_2.fst.toNat void)&&
  !aI [] (ai ks g_2.fst.toNat void)))))/\g_2.fst.toNat<ak (bX g_2.snd.fst g_2.fst.toNat (ai g_2.snd.fst g_2.fst.toNat false||aI g_2.snd.snd.snd.fst (ai ks g_2.fst.toNat void)&& !aI
  [] (ai ks g_2.fst.toNat void)))/\((ai (bX g_2.snd.fst g_2.fst.toNat (ai g_2.snd.fst g_2.fst.toNat false||aI g_2.snd.snd.snd.fst (ai ks g_2.fst.toNat void)&& !aI [] (ai ks
  g_2.fst.toNat void))) g_2.fst.toNat false&&aI [] (ai ks g_2.fst.toNat void))=true->false=true)/\((ai (bX g_2.snd.fst g_2.fst.toNat (ai g_2.snd.fst g_2.fst.toNat false||aI
  g_2.snd.snd.snd.fst (ai ks g_2.fst.toNat void)&& !aI [] (ai ks g_2.fst.toNat void))) g_2.fst.toNat false&&aI [] (ai ks g_2.fst.toNat void))=false->aL IntKind.i64 (g_2.fst+1)/\∃g',
  iW ks g'/\ui ks g'<ui ks g_2/\g.fst=g.fst/\Value.pointer none=Value.pointer none/\g_2.fst+1=g'.fst/\l=l/\ak x=ak x/\(jg x=jg x)/\ks=ks/\false=false/\
  g_2.snd.snd.snd.snd=g'.snd.snd.snd.snd/\g_2.snd.snd.fst=g'.snd.snd.fst/\bX g_2.snd.fst g_2.fst.toNat (ai g_2.snd.fst g_2.fst.toNat false||aI g_2.snd.snd.snd.fst (ai ks g_2.fst.toNat
  void)&& !aI [] (ai ks g_2.fst.toNat void))=g'.snd.fst/\g_2.snd.snd.snd.fst=g'.snd.snd.snd.fst/\g_2.snd.snd.snd.snd=g'.snd.snd.snd.snd))/\(decide (g_2.fst<bH (ak ks))=false->aL
  IntKind.i64 (g.fst+1)/\∃g',lB x ks g'/\mZ x g'<mZ x g/\g.fst+1=g'.fst/\l=l/\ak x=ak x/\(jg x=jg x)/\ks=ks/\false=false/\g_2.snd.snd.snd.snd=
  g'.snd.snd.fst/\g_2.snd.snd.fst=g'.snd.fst/\g_2.snd.fst=g'.snd.snd.snd))))/\(aP (gR x g)=false->((!decide (Hu x g=0)||decide ((dJ x g).out=3)||decide ((dJ x g).out=1))=
  true->oX g.snd.snd.fst/\oX (gR x g))/\(((!decide (Hu x g=0)||decide ((dJ x g).out=3)||decide ((dJ x g).out=1))&& !eA g.snd.snd.fst (gR x g))=true->false=true)/\
  (((!decide (Hu x g=0)||decide ((dJ x g).out=3)||decide ((dJ x g).out=1))&& !eA g.snd.snd.fst (gR x g))=false->true=true/\true=true/\∀(r0:Loop),(∃g_1,jR g_1/\
  ah (gR x g)=ah (gR x g)/\0=g_1/\l=l/\ak x=ak x/\(jg x=jg x)/\ks=ks/\false=false/\C9 x g=C9 x g/\g.snd.snd.snd=g.snd.snd.snd/\(dJ x g).out=(dJ x g).out
  /\(dJ x g).proc=(dJ x g).proc/\(dJ x g).err=(dJ x g).err/\(dJ x g).ans.code=(dJ x g).ans.code/\(dJ x g).ans.data=(dJ x g).ans.data/\(dJ x g).ans.k0=(dJ x g).ans.k0/\(dJ x
  g).ans.k1=(dJ x g).ans.k1/\(dJ x g).ans.k2=(dJ x g).ans.k2/\(dJ x g).wants=(dJ x g).wants/\gR x g=gR x g/\g.snd.snd.fst=g.snd.snd.fst/\gR x g=gR x g/\r0=r0)/\∀(g_1:
  Int),jR g_1->(decide (g_1<ah (gR x g))=true->(0<=g_1/\g_1< ↑(ak (gR x g)))/\g_1.toNat<ak (gR x g)/\g_1.toNat<ak (gR x g)/\r0=r0/\r0=r0/\((decide ((ai (gR x
  g) g_1.toNat free).count<(au g.snd.snd.fst g_1).count)||decide ((au g.snd.snd.fst g_1).kind=3)&& !vk (ai (gR x g) g_1.toNat free) (au g.snd.snd.fst g_1)||decide ((ai (gR x g)
  g_1.toNat free).count=(au g.snd.snd.fst g_1).count)&&decide ((ai (gR x g) g_1.toNat free).kind=1)&&decide ((au g.snd.snd.fst g_1).kind=1)&&decide ((ai (gR x g) g_1.toNat
  free).calls<(au g.snd.snd.fst g_1).calls))=true->r0=r0/\false=true)/\((decide ((ai (gR x g) g_1.toNat free).count<(au g.snd.snd.fst g_1).count)||decide ((au g.snd.snd.fst
  g_1).kind=3)&& !vk (ai (gR x g) g_1.toNat free) (au g.snd.snd.fst g_1)||decide ((ai (gR x g) g_1.toNat free).count=(au g.snd.snd.fst g_1).count)&&decide ((ai (gR x g) g_1.toNat
  free).kind=1)&&decide ((au g.snd.snd.fst g_1).kind=1)&&decide ((ai (gR x g) g_1.toNat free).calls<(au g.snd.snd.fst g_1).calls))=false->r0=r0/\aL IntKind.i64 (g_1+1)/\∃
  g',jR g'/\(64-g').toNat<(64-g_1).toNat/\ah (gR x g)=ah (gR x g)/\g_1+1=g'/\l=l/\ak x=ak x/\(jg x=jg x)/\ks=ks/\false=false/\C9 x g=C9 x g/\
  g.snd.snd.snd=g.snd.snd.snd/\(dJ x g).out=(dJ x g).out/\(dJ x g).proc=(dJ x g).proc/\(dJ x g).err=(dJ x g).err/\(dJ x g).ans.code=(dJ x g).ans.code/\(dJ x g).ans.data=(dJ x
  g).ans.data/\(dJ x g).ans.k0=(dJ x g).ans.k0/\(dJ x g).ans.k1=(dJ x g).ans.k1/\(dJ x g).ans.k2=(dJ x g).ans.k2/\(dJ x g).wants=(dJ x g).wants/\gR x g=gR x g/\g.snd.snd.fst=
  g.snd.snd.fst/\gR x g=gR x g/\r0=r0))/\(decide (g_1<ah (gR x g))=false->(∃g_2,iW ks g_2/\g.fst=g.fst/\0=g_2.fst/\l=l/\ak x=ak x/\(jg x=jg x)/\ks=ks/\
  false=false/\gR x g=g_2.snd.snd.snd.snd/\C9 x g=g_2.snd.snd.fst/\g.snd.snd.snd=g_2.snd.fst/\g.snd.snd.fst=g_2.snd.snd.snd.fst/\gR x g=g_2.snd.snd.snd.snd)/\∀(g_2:Int×List Bool
  ×Int×List Sx.Obj×List Sx.Obj),iW ks g_2->(decide (g_2.fst<bH (ak ks))=true->(0<=g_2.fst/\g_2.fst< ↑(ak ks))/\g_2.fst.toNat<ak ks/\(0<=g_2.fst/\g_2.fst< ↑(ak ks))/\
  g_2.fst.toNat<ak ks/\(0<=g_2.fst/\g_2.fst< ↑(ak g_2.snd.fst))/\g_2.fst.toNat<ak g_2.snd.fst/\(0<=g_2.fst/\g_2.fst< ↑(ak g_2.snd.fst))/\g_2.fst.toNat<ak g_2.snd.fst/\(0<=
  g_2.fst/\g_2.fst< ↑(ak (Hs ks g_2)))/\g_2.fst.toNat<ak (Hs ks g_2)/\((ai (Hs ks g_2) g_2.fst.toNat false&&aI g_2.snd.snd.snd.snd (ai ks g_2.fst.toNat void))=true->false=true)
  /\((ai (Hs ks g_2) g_2.fst.toNat false&&aI g_2.snd.snd.snd.snd (ai ks g_2.fst.toNat void))=false->aL IntKind.i64 (g_2.fst+1)/\∃g',iW ks g'/\ui ks g'<ui ks g_2/\g.fst
  =g.fst/\g_2.fst+1=g'.fst/\l=l/\ak x=ak x/\(jg x=jg x)/\ks=ks/\false=false/\g_2.snd.snd.snd.snd=g'.snd.snd.snd.snd/\g_2.snd.snd.fst=g'.snd.snd.fst/\Hs ks g_2=
  g'.snd.fst/\g_2.snd.snd.snd.fst=g'.snd.snd.snd.fst/\g_2.snd.snd.snd.snd=g'.snd.snd.snd.snd))/\(decide (g_2.fst<bH (ak ks))=false->aL IntKind.i64 (g.fst+1)/\∃g',lB x ks g'/\
  mZ x g'<mZ x g/\g.fst+1=g'.fst/\l=l/\ak x=ak x/\(jg x=jg x)/\ks=ks/\false=false/\g_2.snd.snd.snd.snd=g'.snd.snd.fst/\g_2.snd.snd.fst=g'.snd.fst/\g_2.snd.fst
  =g'.snd.snd.snd))))))/\(decide (g.fst<bH (ak x))=false->true=true)))))):=by
 have hqf:Dq (oD x):=⟨x,rfl,hx⟩;refine⟨rfl,trivial,fun _=>rfl,fun hm=>⟨hqf,fun _=>rfl,fun hlen=>?_⟩⟩
 simp only[Bool.or_eq_false_iff,decide_eq_false_iff_not]at hlen;obtain⟨⟨f1,f2⟩,f3⟩:=hlen;have f1:¬40<(ak x:Int):=Rq f1;have f2:¬(l.length:Int)<4:=f2;have f3:¬(20<(ks.length:Int)):=f3;have hl:=(NM hm).1;have hl2:=gf hl;have hz:gH 0:=by unfold gH;omega
 have hsz:ah l=(l.length:Int):=rfl;have hr:∀y:Int,-1000<=y->y<=5000000000->aL IntKind.i64 y:=fun y h1 h2=>by simp only[aL,cg];omega
 have sn:∀{M:List Sx.Obj},aq M->aP M=false:=fun{M} h=>by
  have:=gf h;have hll:ak M=M.length:=rfl;unfold aP;rw[hll];exact decide_eq_false (by omega)
 have few:∀{M:List Sx.Obj},aq M->oX M:=fun h=>by have:=gf h;show List.length _<=1000;omega
 refine⟨rfl,fun h=>?_,fun _=>⟨fun h=>?_,fun _=>⟨rfl,few hl,fun h=>by rw[sn hl]at h;simp at h,fun _=>⟨⟨rfl,by unfold bH ak;omega,by unfold bH ak;omega,by unfold bH ak;omega⟩,⟨(0,0,l,nk (bH (ak ks)).toNat false),⟨by simp,by simp,hz,hl,by simp only;rw[Mz];unfold bH ak;omega,fun i hi hd=>by simp only at hd;rw[OJ]at hd;simp at hd⟩,(by(repeat' apply And.intro)<;>rfl)⟩,fun g hg=>⟨fun hlt=>?_,fun _=>rfl⟩⟩⟩⟩⟩
 ·have:=Xs h;omega
 ·simp only[Bool.or_false,Xp]at h;omega
 have hlt:g.1<(ak x:Int):=Xs hlt;obtain⟨g0,g1,gn,gl,i3,i4⟩:=hg;have hgl:=gf gl;have hs:=hx g.1.toNat (by omega)
 have hK:aq (gR x g):=Lz gl;have hN:gH (C9 x g):=SG gn;have hR:AF g.2.2.1 (gR x g):=Fq gl;have hlk:=gf hK
 refine⟨rfl,rfl,rfl,few gl,fun h=>by rw[sn gl]at h;simp at h,fun _=>⟨⟨g0,hlt⟩,by omega,rfl,⟨gl,hs,gn⟩,rfl,rfl,rfl,few hK,fun h=>by rw[sn hK]at h;simp at h,fun _=>⟨fun _=>⟨few gl,few hK⟩,fun h=>?_,fun _=>⟨rfl,rfl,fun r0=>⟨⟨0,⟨by omega,by omega⟩,(by(repeat' apply And.intro)<;>rfl)⟩,fun j hj=>⟨fun hjl=>?_,fun hjl=>?_⟩⟩⟩⟩⟩⟩
 ·rw[Xo]at h;have e:gR x g=g.2.2.1:=OC h.1;rw[e,nD]at h;simp at h
 ·obtain⟨j0,j1⟩:=hj;have hjl:j<((gR x g).length:Int):=Xs hjl;have hjn:j.toNat<(gR x g).length:=by omega
  have hjg:j.toNat<g.2.2.1.length:=by rw[<-hR.1];exact hjn
  have hget:au g.2.2.1 j=ai g.2.2.1 j.toNat free:=fu j0 (by omega)
  have hb:=Jt (n:=g.2.1) (p:=ai x g.1.toNat nL) gl hjg;rw[hget];refine⟨⟨j0,hjl⟩,hjn,hjn,rfl,rfl,fun h=>?_,fun _=>⟨rfl,hr _ (by omega) (by omega),j+1,⟨by omega,by omega⟩,by omega,(by(repeat' apply And.intro)<;>rfl)⟩⟩
  have:=hb.symm.trans h;simp at this
 ·refine⟨⟨(0,g.2.2.2,C9 x g,g.2.2.1,gR x g),⟨by simp,by simp,i3,hN,gl,hK,hR,fun i hi hd=>by rw[Xu (by simp only;omega)];exact i4 i hi hd⟩,(by(repeat' apply And.intro)<;>rfl)⟩,fun t ht=>⟨fun htl=>?_,fun htl=>?_⟩⟩
  ·have htl:t.1<(ks.length:Int):=Xs htl;obtain⟨s1,s2⟩:=NN ht htl;obtain⟨t0,t1,t2,_⟩:=ht;have hn:t.1.toNat<ak ks:=by show t.1.toNat<ks.length;omega
   have hd:t.1.toNat<ak t.2.1:=by show t.1.toNat<t.2.1.length;omega
   have hD:t.1<(ak t.2.1:Int):=by show t.1<(t.2.1.length:Int);omega
   have hds:t.1.toNat<ak (Hs ks t):=by simp only[ak,FB];omega
   have hDs:t.1<(ak (Hs ks t):Int):=by simp only[ak,FB];omega
   refine⟨⟨t0,htl⟩,hn,⟨t0,htl⟩,hn,⟨t0,hD⟩,hd,⟨t0,hD⟩,hd,⟨t0,hDs⟩,hds,fun hb=>?_,fun _=>⟨hr _ (by omega) (by omega),_,s2,?_,(by(repeat' apply And.intro)<;>rfl)⟩⟩
   ·rw[s1]at hb;simp at hb
   ·unfold ui;simp only[ak];omega
  ·obtain⟨t0,t1,t2,tn,t3,t4,t5,t6⟩:=ht;have htl:¬t.1<(ks.length:Int):=Xr htl;refine⟨hr _ (by omega) (by omega),(g.1+1,t.2.2.1,t.2.2.2.2,t.2.1),⟨by simp only;omega,by simp only;omega,tn,t4,t2,fun i hi hd=>?_⟩,?_,(by(repeat' apply And.intro)<;>rfl)⟩
   ·have:=t6 i hi hd;rwa [Xv (by omega)]at this
   ·unfold mZ;simp only;omega
theorem MQ (l:List Sx.Obj) (x:List ke) (ks:List Key) (hx:Aq x):aj Tryz.prog 7 [.sa 0,.sa 1,.sa 2] [.ro (.arr none 163 (.ob l)),.ro (.arr none 11 (oD x)),.ro (.arr none 6 (.key ks))] (oR (.bo true)) (fun _ _=>False):=
 bK (inl:=(fun f=>f==32||f==16||f==18||f==24)) (ann:=(kg [(7,9,WG [1,2,6,8,10] (fun(g:Int×Int×List Sx.Obj×List Bool)=> [(11,.it .i64 g.1)]) (fun g=> [(6,.blk QD (yJ 5 g.2.1)),(5,.store tS eS g.2.2.1),(7,.arr (some 4) 1 (.bo g.2.2.2)),(4,.gone)]) (lB x ks) (mZ x)),(18000+44,1,V0 [0,1,5] (fun(g:Int)=> [(6,.it .i64 g)]) (fun _=> []) jR (fun g=>oV (sf 64 g))),(7,23,V0 [1,2,6,8,10,11,12,15] (fun(g:Int×List Bool×Int×List Sx.Obj×List Sx.Obj)=> [(20,.it .i64 g.1)]) (fun g=> [(5,.store tS eS g.2.2.2.2),(6,.blk QD (yJ 5 g.2.2.1)),(7,.arr (some 4) 1 (.bo g.2.1)),(9,.store tS eS g.2.2.2.1),(12,.store tS eS g.2.2.2.2),(11,.gone)]) (iW ks) (ui ks))])) (ab L0 (ab SO (ab aY (ab eG (ab bk (ab LN an)))))) (aC OE (aC vr (aC EM az))) (O7 l x ks hx) (by kernel_rfl)
end Go.Proofs.YtlblcfaclmpekaaGreat
