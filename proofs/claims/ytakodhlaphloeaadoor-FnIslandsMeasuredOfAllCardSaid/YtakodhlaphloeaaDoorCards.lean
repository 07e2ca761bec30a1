/-
  DERIVED. GIVEN WITH THE SEED: THE CARDS: each row of YtakodhlaphloeaaDoorRows.lean that lists a variable, with what it lists TIED to the program's text (the seventh form; the later family's looks); each row that meets fmt, with fmt's text TOLD by the authors' own Lean function (tested against real Go, not proved from fmt's source: count such statements apart). THE CARD IS WHAT COUNTS. Prove the row's statement (the work); the ties are given (YtakodhlaphloeaaDoorTie.lean); close each card by the builder's one call (the guide's Derived/Test/ToyasCard.lean, 'card_holds'). Laid BY PROGRAM, IN A SANDBOX (cutbox-door.mjs). By AI agents, Wed Nov 11 2026. No macro, syntax, notation, axiom, sorry.
-/
import Derived.Test.YtakodhlaphloeaaDoorRows
import GoSem.ClaimSeven
namespace Go.Proofs.YtakodhlaphloeaaDoor
namespace Rows

/-- THE TIED CARD OF 'laws.FnIslandsMeasuredOfAll'. -/
def fnIslandsMeasuredOfAllCard : Claim7 := { stood := { row := fnIslandsMeasuredOfAllRow, standIns := [], harness := (true, "95efe4cf2ac1eccc3b35fb3c6fc4144883b17c09bfe5f96accb605652d7c6997"), looks := true }, kinds := [], alts := [], laidByText := true, laidKinds := [.data, .data, .data, .sentinel, .sentinel], laidTests := true, laidLooks := .later }
def FnIslandsMeasuredOfAllCardSaid : Prop := Claim7.holds Tryd.pinned (.plain (OpenSpec.ofChange fnIslandsMeasuredOfAllSpec)) fnIslandsMeasuredOfAllCard

/-- THE SECOND FORM's CARD OF 'laws.FnIslandsMeasuredOfAll'. -/
def fnIslandsMeasuredOfAllUptoCard : Claim7 := { stood := { row := fnIslandsMeasuredOfAllUptoRow, standIns := [], harness := (true, "95efe4cf2ac1eccc3b35fb3c6fc4144883b17c09bfe5f96accb605652d7c6997"), looks := true }, kinds := [], alts := [], laidByText := true, laidKinds := [.data, .data, .data, .sentinel, .sentinel], laidTests := true, laidLooks := .later }
def FnIslandsMeasuredOfAllUptoCardSaid : Prop := Claim7.holds Tryd.pinned (.plain (OpenSpec.upto fnIslandsMeasuredOfAllSpec)) fnIslandsMeasuredOfAllUptoCard
end Rows
end Go.Proofs.YtakodhlaphloeaaDoor
