/-
  DERIVED. GIVEN WITH THE SEED: THE CARDS: each row of YthpgoddjglnoiaaGreatDoorRows.lean that lists a variable, with what it lists TIED to the program's text (the seventh form; the later family's looks); each row that meets fmt, with fmt's text TOLD by the authors' own Lean function (tested against real Go, not proved from fmt's source: count such statements apart). THE CARD IS WHAT COUNTS. Prove the row's statement (the work); the ties are given (YthpgoddjglnoiaaGreatDoorTie.lean); close each card by the builder's one call (the guide's Derived/Test/ToyasCard.lean, 'card_holds'). Laid BY PROGRAM, IN A SANDBOX (cutbox-door.mjs). By AI agents, Wed Nov 11 2026. No macro, syntax, notation, axiom, sorry.
-/
import Derived.Test.YthpgoddjglnoiaaGreatDoorRows
import GoSem.ClaimSeven
namespace Go.Proofs.YthpgoddjglnoiaaGreatDoor
namespace Rows

/-- THE TIED CARD OF 'laws.FnRoutes'. -/
def fnRoutesCard : Claim7 := { stood := { row := fnRoutesRow, standIns := [], harness := (true, "006a060a4e6777cce692a47040fc74642c73f06cd194d0d082e166c52282b723"), looks := false }, kinds := [], alts := [], laidByText := true, laidKinds := [.data, .data, .data], laidTests := true, laidLooks := .later }
def FnRoutesCardSaid : Prop := Claim7.holds Tryz.pinned (.plain (OpenSpec.ofChange fnRoutesSpec)) fnRoutesCard

/-- THE SECOND FORM's CARD OF 'laws.FnRoutes'. -/
def fnRoutesUptoCard : Claim7 := { stood := { row := fnRoutesUptoRow, standIns := [], harness := (true, "006a060a4e6777cce692a47040fc74642c73f06cd194d0d082e166c52282b723"), looks := false }, kinds := [], alts := [], laidByText := true, laidKinds := [.data, .data, .data], laidTests := true, laidLooks := .later }
def FnRoutesUptoCardSaid : Prop := Claim7.holds Tryz.pinned (.plain (OpenSpec.upto fnRoutesSpec)) fnRoutesUptoCard
end Rows
end Go.Proofs.YthpgoddjglnoiaaGreatDoor
