/-
  DERIVED. GIVEN WITH THE SEED: THE CARDS: each row of YtakodhlaphloeaaGreatDoorRows.lean that lists a variable, with what it lists TIED to the program's text (the seventh form; the later family's looks); each row that meets fmt, with fmt's text TOLD by the authors' own Lean function (tested against real Go, not proved from fmt's source: count such statements apart). THE CARD IS WHAT COUNTS. Prove the row's statement (the work); the ties are given (YtakodhlaphloeaaGreatDoorTie.lean); close each card by the builder's one call (the guide's Derived/Test/ToyasCard.lean, 'card_holds'). Laid BY PROGRAM, IN A SANDBOX (cutbox-door.mjs). By AI agents, Wed Nov 11 2026. No macro, syntax, notation, axiom, sorry.
-/
import Derived.Test.YtakodhlaphloeaaGreatDoorRows
import GoSem.ClaimSeven
namespace Go.Proofs.YtakodhlaphloeaaGreatDoor
namespace Rows

/-- THE TIED CARD OF 'laws.FnIslandsMeasured'. -/
def fnIslandsMeasuredCard : Claim7 := { stood := { row := fnIslandsMeasuredRow, standIns := [], harness := (true, "27620de9e49c5fc177c2ced5c496be697cbfa95f2629b649105afdc75dc18588"), looks := true }, kinds := [], alts := [], laidByText := true, laidKinds := [.data, .data, .data, .sentinel, .sentinel], laidTests := true, laidLooks := .later }
def FnIslandsMeasuredCardSaid : Prop := Claim7.holds Tryz.pinned (.plain (OpenSpec.ofChange fnIslandsMeasuredSpec)) fnIslandsMeasuredCard

/-- THE SECOND FORM's CARD OF 'laws.FnIslandsMeasured'. -/
def fnIslandsMeasuredUptoCard : Claim7 := { stood := { row := fnIslandsMeasuredUptoRow, standIns := [], harness := (true, "27620de9e49c5fc177c2ced5c496be697cbfa95f2629b649105afdc75dc18588"), looks := true }, kinds := [], alts := [], laidByText := true, laidKinds := [.data, .data, .data, .sentinel, .sentinel], laidTests := true, laidLooks := .later }
def FnIslandsMeasuredUptoCardSaid : Prop := Claim7.holds Tryz.pinned (.plain (OpenSpec.upto fnIslandsMeasuredSpec)) fnIslandsMeasuredUptoCard
end Rows
end Go.Proofs.YtakodhlaphloeaaGreatDoor
