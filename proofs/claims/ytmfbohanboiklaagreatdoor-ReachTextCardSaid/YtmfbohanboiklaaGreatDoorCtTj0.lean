import Derived.Test.YtmfbohanboiklaaGreatDoorRows
import Derived.Test.YtmfbohanboiklaaGreatDoorSpTx
import Derived.Test.YtmfbohanboiklaaGreatDoorCtTo
import Derived.Shelf.Strconv.Itoa4
import Derived.Room.Shelf.Join48
set_option linter.unusedSimpArgs false
set_option linter.unusedVariables false
set_option maxRecDepth 100000
namespace Go.Proofs.YtmfbohanboiklaaGreatDoor
open Go.Sx Go.Sort Go.Shelf Go.Proofs
open Go.RowKit (Below)
def yM:Go.Shelf.Ren:=⟨fun|173=>19|246=>32|283=>48|284=>49|285=>50|286=>51|129=>66|317=>65|318=>67|319=>68|320=>69|337=>82|338=>83|n=>n,fun|2=>2|3=>3|9=>9|4=>4|171=>106|0=>0|53=>107|37=>97|5=>5|173=>110|212=>126|51=>127|20=>20|213=>128|46=>130|232=>161|233=>41|n=>n,fun|17=>0|18=>2|19=>3|n=>n⟩
theorem HG:LaysM.n173 Tryz.prog yM where
 mixed:=by kernel_rfl
 f129:=Tryz.func66.trans (congrArg some (by kernel_rfl))
 f173:=Tryz.func19.trans (congrArg some (by kernel_rfl))
 f246:=Tryz.func32.trans (congrArg some (by kernel_rfl))
 f283:=Tryz.func48.trans (congrArg some (by kernel_rfl))
 f284:=Tryz.func49.trans (congrArg some (by kernel_rfl))
 f285:=Tryz.func50.trans (congrArg some (by kernel_rfl))
 f286:=Tryz.func51.trans (congrArg some (by kernel_rfl))
 f317:=Tryz.func65.trans (congrArg some (by kernel_rfl))
 f318:=Tryz.func67.trans (congrArg some (by kernel_rfl))
 f319:=Tryz.func68.trans (congrArg some (by kernel_rfl))
 f320:=Tryz.func69.trans (congrArg some (by kernel_rfl))
 f337:=Tryz.func82.trans (congrArg some (by kernel_rfl))
 f338:=Tryz.func83.trans (congrArg some (by kernel_rfl))
 t0:=Tryz.underlying0
 a0:=Tryz.isAgg0
 z0:=Tryz.sizeOf0
 v0:=Tryz.zeroValue0
 t2:=Tryz.underlying2
 a2:=Tryz.isAgg2
 z2:=Tryz.sizeOf2
 v2:=Tryz.zeroValue2
 t3:=Tryz.underlying3
 a3:=Tryz.isAgg3
 z3:=Tryz.sizeOf3
 v3:=Tryz.zeroValue3
 t4:=Tryz.underlying4
 a4:=Tryz.isAgg4
 z4:=Tryz.sizeOf4
 v4:=Tryz.zeroValue4
 t5:=Tryz.underlying5
 a5:=Tryz.isAgg5
 z5:=Tryz.sizeOf5
 v5:=Tryz.zeroValue5
 t9:=Tryz.underlying9
 a9:=Tryz.isAgg9
 z9:=Tryz.sizeOf9
 v9:=Tryz.zeroValue9
 t20:=Tryz.underlying20
 a20:=Tryz.isAgg20
 z20:=Tryz.sizeOf20
 v20:=Tryz.zeroValue20
 t37:=Tryz.underlying97
 a37:=Tryz.isAgg97
 z37:=Tryz.sizeOf97
 v37:=Tryz.zeroValue97
 t46:=Tryz.underlying130
 a46:=Tryz.isAgg130
 z46:=Tryz.sizeOf130
 v46:=Tryz.zeroValue130
 t51:=Tryz.underlying127
 a51:=Tryz.isAgg127
 z51:=Tryz.sizeOf127
 v51:=Tryz.zeroValue127
 t53:=Tryz.underlying107
 a53:=Tryz.isAgg107
 z53:=Tryz.sizeOf107
 v53:=Tryz.zeroValue107
 t171:=Tryz.underlying106
 a171:=Tryz.isAgg106
 z171:=Tryz.sizeOf106
 v171:=Tryz.zeroValue106
 t173:=Tryz.underlying110
 a173:=Tryz.isAgg110
 z173:=Tryz.sizeOf110
 v173:=Tryz.zeroValue110
 t212:=Tryz.underlying126
 a212:=Tryz.isAgg126
 z212:=Tryz.sizeOf126
 v212:=Tryz.zeroValue126
 t213:=Tryz.underlying128
 a213:=Tryz.isAgg128
 z213:=Tryz.sizeOf128
 t232:=Tryz.underlying161
 a232:=Tryz.isAgg161
 z232:=Tryz.sizeOf161
 v232:=Tryz.zeroValue161
 t233:=Tryz.underlying41
 a233:=Tryz.isAgg41
 z233:=Tryz.sizeOf41
 v233:=Tryz.zeroValue41
 g17:=by kernel_rfl
 g18:=by kernel_rfl
 g19:=by kernel_rfl
 i0:=by kernel_rfl
 i2:=by kernel_rfl
 i3:=by kernel_rfl
 i4:=by kernel_rfl
 i5:=by kernel_rfl
 i9:=by kernel_rfl
 i20:=by kernel_rfl
 i37:=by kernel_rfl
 i46:=by kernel_rfl
 i51:=by kernel_rfl
 i53:=by kernel_rfl
 i171:=by kernel_rfl
 i173:=by kernel_rfl
 i212:=by kernel_rfl
 i232:=by kernel_rfl
 i233:=by kernel_rfl
 m17:=by kernel_rfl
 m18:=by kernel_rfl
 m19:=by kernel_rfl
def ym:Go.Shelf.Ren:=⟨fun|171=>18|243=>31|246=>32|283=>48|284=>49|285=>50|286=>51|129=>66|317=>65|318=>67|319=>68|320=>69|337=>82|338=>83|n=>n,fun|3=>3|9=>9|2=>2|4=>4|171=>106|0=>0|53=>107|37=>97|5=>5|173=>110|212=>126|51=>127|20=>20|213=>128|46=>130|232=>161|233=>41|n=>n,fun|17=>0|18=>2|19=>3|n=>n⟩
theorem Ho:LaysM.n171 Tryz.prog ym where
 mixed:=by kernel_rfl
 f129:=Tryz.func66.trans (congrArg some (by kernel_rfl))
 f171:=Tryz.func18.trans (congrArg some (by kernel_rfl))
 f243:=Tryz.func31.trans (congrArg some (by kernel_rfl))
 f246:=Tryz.func32.trans (congrArg some (by kernel_rfl))
 f283:=Tryz.func48.trans (congrArg some (by kernel_rfl))
 f284:=Tryz.func49.trans (congrArg some (by kernel_rfl))
 f285:=Tryz.func50.trans (congrArg some (by kernel_rfl))
 f286:=Tryz.func51.trans (congrArg some (by kernel_rfl))
 f317:=Tryz.func65.trans (congrArg some (by kernel_rfl))
 f318:=Tryz.func67.trans (congrArg some (by kernel_rfl))
 f319:=Tryz.func68.trans (congrArg some (by kernel_rfl))
 f320:=Tryz.func69.trans (congrArg some (by kernel_rfl))
 f337:=Tryz.func82.trans (congrArg some (by kernel_rfl))
 f338:=Tryz.func83.trans (congrArg some (by kernel_rfl))
 t0:=Tryz.underlying0
 a0:=Tryz.isAgg0
 z0:=Tryz.sizeOf0
 v0:=Tryz.zeroValue0
 t2:=Tryz.underlying2
 a2:=Tryz.isAgg2
 z2:=Tryz.sizeOf2
 v2:=Tryz.zeroValue2
 t3:=Tryz.underlying3
 a3:=Tryz.isAgg3
 z3:=Tryz.sizeOf3
 v3:=Tryz.zeroValue3
 t4:=Tryz.underlying4
 a4:=Tryz.isAgg4
 z4:=Tryz.sizeOf4
 v4:=Tryz.zeroValue4
 t5:=Tryz.underlying5
 a5:=Tryz.isAgg5
 z5:=Tryz.sizeOf5
 v5:=Tryz.zeroValue5
 t9:=Tryz.underlying9
 a9:=Tryz.isAgg9
 z9:=Tryz.sizeOf9
 v9:=Tryz.zeroValue9
 t20:=Tryz.underlying20
 a20:=Tryz.isAgg20
 z20:=Tryz.sizeOf20
 v20:=Tryz.zeroValue20
 t37:=Tryz.underlying97
 a37:=Tryz.isAgg97
 z37:=Tryz.sizeOf97
 v37:=Tryz.zeroValue97
 t46:=Tryz.underlying130
 a46:=Tryz.isAgg130
 z46:=Tryz.sizeOf130
 v46:=Tryz.zeroValue130
 t51:=Tryz.underlying127
 a51:=Tryz.isAgg127
 z51:=Tryz.sizeOf127
 v51:=Tryz.zeroValue127
 t53:=Tryz.underlying107
 a53:=Tryz.isAgg107
 z53:=Tryz.sizeOf107
 v53:=Tryz.zeroValue107
 t171:=Tryz.underlying106
 a171:=Tryz.isAgg106
 z171:=Tryz.sizeOf106
 v171:=Tryz.zeroValue106
 t173:=Tryz.underlying110
 a173:=Tryz.isAgg110
 z173:=Tryz.sizeOf110
 v173:=Tryz.zeroValue110
 t212:=Tryz.underlying126
 a212:=Tryz.isAgg126
 z212:=Tryz.sizeOf126
 v212:=Tryz.zeroValue126
 t213:=Tryz.underlying128
 a213:=Tryz.isAgg128
 z213:=Tryz.sizeOf128
 t232:=Tryz.underlying161
 a232:=Tryz.isAgg161
 z232:=Tryz.sizeOf161
 v232:=Tryz.zeroValue161
 t233:=Tryz.underlying41
 a233:=Tryz.isAgg41
 z233:=Tryz.sizeOf41
 v233:=Tryz.zeroValue41
 g17:=by kernel_rfl
 g18:=by kernel_rfl
 g19:=by kernel_rfl
 i0:=by kernel_rfl
 i2:=by kernel_rfl
 i3:=by kernel_rfl
 i4:=by kernel_rfl
 i5:=by kernel_rfl
 i9:=by kernel_rfl
 i20:=by kernel_rfl
 i37:=by kernel_rfl
 i46:=by kernel_rfl
 i51:=by kernel_rfl
 i53:=by kernel_rfl
 i171:=by kernel_rfl
 i173:=by kernel_rfl
 i212:=by kernel_rfl
 i232:=by kernel_rfl
 i233:=by kernel_rfl
 m17:=by kernel_rfl
 m18:=by kernel_rfl
 m19:=by kernel_rfl
def pN:Go.Shelf.Ren:=⟨fun|156=>30|165=>45|166=>46|169=>47|240=>63|241=>64|276=>80|277=>81|n=>n,fun|31=>55|9=>9|3=>3|4=>4|0=>0|20=>20|72=>99|76=>103|70=>96|37=>97|75=>102|127=>123|164=>144|5=>5|80=>105|n=>n,fun|n=>n⟩
theorem zT:Lays.n156 Tryz.prog pN where
 mixed:=by kernel_rfl
 f156:=Tryz.func30.trans (congrArg some (by kernel_rfl))
 f165:=Tryz.func45.trans (congrArg some (by kernel_rfl))
 f166:=Tryz.func46.trans (congrArg some (by kernel_rfl))
 f169:=Tryz.func47.trans (congrArg some (by kernel_rfl))
 f240:=Tryz.func63.trans (congrArg some (by kernel_rfl))
 f241:=Tryz.func64.trans (congrArg some (by kernel_rfl))
 f276:=Tryz.func80.trans (congrArg some (by kernel_rfl))
 f277:=Tryz.func81.trans (congrArg some (by kernel_rfl))
 t0:=Tryz.underlying0
 a0:=Tryz.isAgg0
 z0:=Tryz.sizeOf0
 v0:=Tryz.zeroValue0
 t3:=Tryz.underlying3
 a3:=Tryz.isAgg3
 z3:=Tryz.sizeOf3
 v3:=Tryz.zeroValue3
 t4:=Tryz.underlying4
 a4:=Tryz.isAgg4
 z4:=Tryz.sizeOf4
 v4:=Tryz.zeroValue4
 t9:=Tryz.underlying9
 a9:=Tryz.isAgg9
 z9:=Tryz.sizeOf9
 v9:=Tryz.zeroValue9
 t20:=Tryz.underlying20
 a20:=Tryz.isAgg20
 z20:=Tryz.sizeOf20
 v20:=Tryz.zeroValue20
 t31:=Tryz.underlying55
 a31:=Tryz.isAgg55
 z31:=Tryz.sizeOf55
 v31:=Tryz.zeroValue55
 t37:=Tryz.underlying97
 a37:=Tryz.isAgg97
 z37:=Tryz.sizeOf97
 v37:=Tryz.zeroValue97
 t70:=Tryz.underlying96
 a70:=Tryz.isAgg96
 z70:=Tryz.sizeOf96
 v70:=Tryz.zeroValue96
 t72:=Tryz.underlying99
 a72:=Tryz.isAgg99
 z72:=Tryz.sizeOf99
 v72:=Tryz.zeroValue99
 t75:=Tryz.underlying102
 a75:=Tryz.isAgg102
 z75:=Tryz.sizeOf102
 v75:=Tryz.zeroValue102
 t76:=Tryz.underlying103
 a76:=Tryz.isAgg103
 z76:=Tryz.sizeOf103
 v76:=Tryz.zeroValue103
 t127:=Tryz.underlying123
 a127:=Tryz.isAgg123
 z127:=Tryz.sizeOf123
 v127:=Tryz.zeroValue123
 t164:=Tryz.underlying144
 a164:=Tryz.isAgg144
 z164:=Tryz.sizeOf144
 v164:=Tryz.zeroValue144
theorem GI:Builder.Extra Tryz.prog pN where
 sizeBuilder:=by kernel_rfl
 liesBuilder:=by kernel_rfl
 t5:=Tryz.underlying5
 a5:=Tryz.isAgg5
 z5:=Tryz.sizeOf5
 v5:=Tryz.zeroValue5
 infoByte:=by kernel_rfl
 cellsByte:=by kernel_rfl
 sizeByte:=by kernel_rfl
 neB5:=by decide
def A6:String:=Rows.reachTextRow.named.headD default
theorem Fj:∀v x,DS v=some x->bp v=bp (.ci .i64 10):=fun v x h=>by
 unfold DS at h;split at h<;>first|rfl|simp at h
theorem yO{J:Env}{fps:Nat->Nat->Prop}{res:List aI}{w0 w:World}{F0:Nat->Prop}{i:Nat}(hH:aQ J fps res (known res) w0 F0 w)(hr:bD res i= .pin):Lib.TabIs Tryz.prog w A6 .u64 Lib.pow10Tab:=by
 obtain⟨fp,⟨hn,t,z,h⟩,_⟩:=hH.ry hr (cw hr (by simp))
 have hw:=(hH.same 0 (Array.getElem?_eq_some_iff.1 h).1 hn).trans h;unfold Lib.TabIs World.var?;have hg:Tryz.prog.globalNamed A6=some 0:=by kernel_rfl
 rw[hg];simp only[Option.bind_some];rw[hw];unfold II Lib.pow10Tab;rw[List.map_map];rfl
theorem nt{K:Nat->Prop}{J:Env}{nid:Nat}{w0 w w':World}{F0:Nat->Prop}{s:ByteArray}(hb:Below w.heap.size w w'):kh K J nid (.st s) [] w0 F0 w (.string s) w':=
 ⟨J,⟨hb,Env.agree.refl _ _,fun _ _=>False,fun k hk=>by simp at hk,fun k l b hk=>by simp at hk⟩,rfl,trivial⟩
theorem xn{w w':World}(h:∃k os,w'=grow (w.drewN k) os):Below w.heap.size w w':=by
 obtain⟨k,os,rfl⟩:=h;exact⟨rfl,rfl,rfl,by simp[grow],fun b hb=>by simp[grow,Array.getElem?_append,hb]⟩
theorem CE:cI Tryz.prog 19 J5:=kT (n4 (bL mD (bL (qu FY (fun _=>rfl) Fj) ea))) (fun _=>rfl) fun a _ _=>by
 obtain⟨n,u,_⟩:=a;refine aJ.om (new:= []) (x:= .st (iR n)) (by simp) (fun J fps w0 F0 w hH hargs=>?_) rfl
 have hn:bU .i64 n:=hargs.1;exact rN (fun h:False=>h) ((Any.strconv_FormatInt_10 HG n hn.1 hn.2 w (yO hH (i:=0) rfl)).mono fun e w' ⟨he,hw⟩=>⟨_,he,nt (xn hw)⟩)
theorem I3:cI Tryz.prog 18 Kw:=kT (n4 (bL mD ea)) (fun _=>rfl) fun a _ _=>by
 obtain⟨n,_⟩:=a;refine aJ.om (new:= []) (x:= .st (iR n)) (by simp) (fun J fps w0 F0 w hH hargs=>?_) rfl
 have hn:bU .i64 n:=hargs.1;exact rN (fun h:False=>h) ((Any.strconv_Itoa Ho n hn.1 hn.2 w (yO hH (i:=0) rfl)).mono fun e w' ⟨he,hw⟩=>⟨_,he,nt (xn hw)⟩)
theorem Fa:p7 Tryz.prog 30 D5:=by
 intro args res K KP hh;unfold D5 at hh;split at hh
 case h_2=>exact hh.elim
 rename_i k s;split at hh
 case h_2=>exact hh.elim
 rename_i o z t hr;split at hh
 case h_2=>exact hh.elim
 rename_i e;split at hh
 case h_2=>exact hh.elim
 rename_i l;split at hh
 case isFalse=>exact hh.elim
 rename_i hz;have hz:=aj.1 hz;subst hz;obtain⟨rfl,⟨j1,j2⟩,hK⟩:=hh;refine aJ.om (new:= []) (x:= .st (bC l)) (by simp) (fun J fps w0 F0 w hH hargs=>?_) (by rw[List.append_nil];exact hK)
 have hk:known res k:=by unfold known;rw[hr];simp
 have hho:=hH.holds k hk;rw[hr]at hho;obtain⟨c1,c2,c3,c4,c5,c6,c7⟩:=hho;rcases c7 with⟨c7,_⟩|⟨e',ce,hrow,hfp⟩
 ·simp at c7
 have hjl:(Lib.join (l.map (·.data.toList)) [32]).length<=65000:=Nat.le_trans (Ee j1) (by omega)
 have hargs':(aV J [.sa k,.st ec]).toArray= #[J.sl k,.string ec]:=rfl;rw[hargs'];have hcl:=vy l;rcases hrow.2 with⟨hv,hn0⟩|⟨g,cap,cur,hv,_,hgc,hnc,hcm,hcs,htk⟩
 ·have:l= []:=List.length_eq_zero_iff.1 hn0;subst this;rw[hv];exact rN (fun h:False=>h) ((Any.strings_Join_none zT GI none 0 ec w).mono fun e w' ⟨he,hw⟩=>⟨_,he,by rw[hw];exact nt (Below.refl _ _)⟩)
 ·rw[hv]
  have hcells:∀(j:Nat) x,l[j]? =some x->w.cell? ⟨g,0+j,none⟩=some (.string x):=fun j x hx=>by
   have hj:=(List.getElem?_eq_some_iff.1 hx).1;unfold World.cell?;simp only[Nat.zero_add,hgc]
   have h1:(cur.toList.take (l.length*1))[j]? =some (Value.string x):=by
    have:(cur.toList.take (l.length*1))=l.map Value.string:=htk.trans hcl;rw[this,List.getElem?_map,hx];rfl
   rw[List.getElem?_take,au (by omega)]at h1
   have h2:cur[j]? =some (Value.string x):=by simpa using h1
   simp[h2]
  exact rN (fun h:False=>h) ((Any.strings_Join_48 zT GI g 0 cap l ec w hcells (Array.getElem?_eq_some_iff.1 hgc).1 (by omega) hnc (by
   show(Lib.join (l.map (·.data.toList)) [32]).length<=_
   omega)).mono fun e w' ⟨he,hb⟩=>⟨_,he,nt hb⟩)
end Go.Proofs.YtmfbohanboiklaaGreatDoor
