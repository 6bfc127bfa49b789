import Derived.Test.YtmfbohanboiklaaGreatSpHn
set_option linter.unusedSimpArgs false
set_option linter.unusedVariables false
set_option maxRecDepth 100000
namespace Go.Sx
def wc:Ct:=fun res _ xs=>match xs with
 | [a]=>match rS tS eS res a with
   |some (_,L)=>match a with
    | .nl _=>match L with
      | []=>some (none,.ci .i64 0,[])
      |_=>none
    | .lp k _=>match aW res k with
      | .store _ _ _=>some (none,.it .i64 (ee L),[])
      |_=>match L with
       | []=>some (none,.ci .i64 0,[])
       |_=>none
    |_=>none
   |none=>none
 |_=>none
theorem DR {P:Program} {f:Nat} (h:cQ P f sR):cQ P f wc:=by
 intro J fps res K w0 F0 w nid args q x new hH hargs hg hq hfr
 have key:∀a o L,args= [a]->rS tS eS res a=some (o,L)->(some (none,.ci .i64 0,[])=some (q,x,new)/\L= []\/some (none,V.it .i64 (ee L),[])=some (q,x,new))->
   (CallsIn (FF P none) 0 P f (aw J args).toArray w fun e w'=>∃v,e= .returned v/\ji K J nid x new w0 F0 w v w')/\∀k,k<new.length->aa new k≠ .yet:=fun a o L e hr hh=>by
  subst e;rcases hh with⟨hh,rfl⟩|hh
  ·simp only[JP,JQ]at hh;obtain⟨rfl,rfl,rfl⟩:=hh;obtain⟨h1,h2⟩:=h J fps res K w0 F0 w nid [a] none (.it .i64 (ee [])) [] hH hargs (by unfold sR Gw;simp only[hr]) trivial hfr
   refine⟨h1.mono ?_,h2⟩;rintro e w' ⟨v,he,ρ',g,hv,_⟩
   refine⟨v,he,ρ',g,hv,?_⟩;simp[ok,br]
  ·simp only[JP,JQ]at hh;obtain⟨rfl,rfl,rfl⟩:=hh;exact h J fps res K w0 F0 w nid [a] none (.it .i64 (ee L)) [] hH hargs (by unfold sR Gw;simp only[hr]) trivial hfr
 unfold wc at hg;split at hg
 case h_2=>simp at hg
 rename_i a;split at hg
 case h_2=>simp at hg
 rename_i o L hr;split at hg
 ·split at hg
  ·exact key _ _ _ rfl hr (.inl ⟨hg,rfl⟩)
  ·simp at hg
 ·split at hg
  ·exact key _ _ _ rfl hr (.inr hg)
  ·split at hg
   ·exact key _ _ _ rfl hr (.inl ⟨hg,rfl⟩)
   ·simp at hg
 ·simp at hg
end Go.Sx
