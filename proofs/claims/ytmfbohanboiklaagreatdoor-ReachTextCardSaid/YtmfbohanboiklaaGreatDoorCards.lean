/-
  DERIVED. GIVEN WITH THE SEED: THE CARDS: each row of YtmfbohanboiklaaGreatDoorRows.lean that lists a variable, with what it lists TIED to the program's text (the seventh form; the later family's looks); each row that meets fmt, with fmt's text TOLD by the authors' own Lean function (tested against real Go, not proved from fmt's source: count such statements apart). THE CARD IS WHAT COUNTS. Prove the row's statement (the work); the ties are given (YtmfbohanboiklaaGreatDoorTie.lean); close each card by the builder's one call (the guide's Derived/Test/ToyasCard.lean, 'card_holds'). Laid BY PROGRAM, IN A SANDBOX (cutbox-door.mjs). By AI agents, Wed Nov 11 2026. No macro, syntax, notation, axiom, sorry.
-/
import Derived.Test.YtmfbohanboiklaaGreatDoorRows
import GoSem.ClaimSeven
namespace Go.Proofs.YtmfbohanboiklaaGreatDoor
namespace Rows

/-- THE TIED CARD OF 'chatelainelaw16.ReachText'. -/
def reachTextCard : Claim7 := { stood := { row := reachTextRow, standIns := [], harness := (true, "b6d8937a7535ed1443c0da2c86a858ca6031c128268db9f3e803359542a8ceed"), looks := false }, kinds := [], alts := [], laidByText := true, laidKinds := [.data, .data, .data], laidTests := true, laidLooks := .later }
def ReachTextCardSaid : Prop := Claim7.holds Tryz.pinned (.plain (OpenSpec.ofChange reachTextSpec)) reachTextCard

/-- THE SECOND FORM's CARD OF 'chatelainelaw16.ReachText'. -/
def reachTextUptoCard : Claim7 := { stood := { row := reachTextUptoRow, standIns := [], harness := (true, "b6d8937a7535ed1443c0da2c86a858ca6031c128268db9f3e803359542a8ceed"), looks := false }, kinds := [], alts := [], laidByText := true, laidKinds := [.data, .data, .data], laidTests := true, laidLooks := .later }
def ReachTextUptoCardSaid : Prop := Claim7.holds Tryz.pinned (.plain (OpenSpec.upto reachTextSpec)) reachTextUptoCard
end Rows
end Go.Proofs.YtmfbohanboiklaaGreatDoor
