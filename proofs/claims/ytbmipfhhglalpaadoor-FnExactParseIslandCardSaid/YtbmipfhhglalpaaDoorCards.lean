/-
  DERIVED. GIVEN WITH THE SEED: THE CARDS: each row of YtbmipfhhglalpaaDoorRows.lean that lists a variable, with what it lists TIED to the program's text (the seventh form; the later family's looks); each row that meets fmt, with fmt's text TOLD by the authors' own Lean function (tested against real Go, not proved from fmt's source: count such statements apart). THE CARD IS WHAT COUNTS. Prove the row's statement (the work); the ties are given (YtbmipfhhglalpaaDoorTie.lean); close each card by the builder's one call (the guide's Derived/Test/ToyasCard.lean, 'card_holds'). Laid BY PROGRAM, IN A SANDBOX (cutbox-door.mjs). By AI agents, Wed Nov 11 2026. No macro, syntax, notation, axiom, sorry.
-/
import Derived.Test.YtbmipfhhglalpaaDoorRows
import GoSem.ClaimSeven
namespace Go.Proofs.YtbmipfhhglalpaaDoor
namespace Rows

/-- THE TIED CARD OF 'laws.FnExactIslandText'. -/
def fnExactIslandTextCard : Claim7 := { stood := { row := fnExactIslandTextRow, standIns := [], harness := (true, "f39a220eb0bcdf520f742277de6c3b5a3be3da1e97b13e8e46b1dd284489243c"), looks := true }, kinds := [], alts := [], laidByText := true, laidKinds := [.data, .data, .data], laidTests := true, laidLooks := .later }
def FnExactIslandTextCardSaid : Prop := Claim7.holds Tryd.pinned (.plain (OpenSpec.ofChange fnExactIslandTextSpec)) fnExactIslandTextCard

/-- THE TIED CARD OF 'laws.FnExactParseIsland'. -/
def fnExactParseIslandCard : Claim7 := { stood := { row := fnExactParseIslandRow, standIns := [], harness := (true, "f39a220eb0bcdf520f742277de6c3b5a3be3da1e97b13e8e46b1dd284489243c"), looks := true }, kinds := [], alts := [], laidByText := true, laidKinds := [.data, .data, .data, .sentinel, .sentinel], laidTests := true, laidLooks := .later }
def FnExactParseIslandCardSaid : Prop := Claim7.holds Tryd.pinned (.plain (OpenSpec.ofChange fnExactParseIslandSpec)) fnExactParseIslandCard

/-- THE TIED CARD OF 'laws.FnIslandsMeasuredOfAll'. -/
def fnIslandsMeasuredOfAllCard : Claim7 := { stood := { row := fnIslandsMeasuredOfAllRow, standIns := [], harness := (true, "f39a220eb0bcdf520f742277de6c3b5a3be3da1e97b13e8e46b1dd284489243c"), looks := true }, kinds := [], alts := [], laidByText := true, laidKinds := [.data, .data, .data, .sentinel, .sentinel], laidTests := true, laidLooks := .later }
def FnIslandsMeasuredOfAllCardSaid : Prop := Claim7.holds Tryd.pinned (.plain (OpenSpec.ofChange fnIslandsMeasuredOfAllSpec)) fnIslandsMeasuredOfAllCard

/-- THE SECOND FORM's CARD OF 'laws.FnExactIslandText'. -/
def fnExactIslandTextUptoCard : Claim7 := { stood := { row := fnExactIslandTextUptoRow, standIns := [], harness := (true, "f39a220eb0bcdf520f742277de6c3b5a3be3da1e97b13e8e46b1dd284489243c"), looks := true }, kinds := [], alts := [], laidByText := true, laidKinds := [.data, .data, .data], laidTests := true, laidLooks := .later }
def FnExactIslandTextUptoCardSaid : Prop := Claim7.holds Tryd.pinned (.plain (OpenSpec.upto fnExactIslandTextSpec)) fnExactIslandTextUptoCard

/-- THE SECOND FORM's CARD OF 'laws.FnExactParseIsland'. -/
def fnExactParseIslandUptoCard : Claim7 := { stood := { row := fnExactParseIslandUptoRow, standIns := [], harness := (true, "f39a220eb0bcdf520f742277de6c3b5a3be3da1e97b13e8e46b1dd284489243c"), looks := true }, kinds := [], alts := [], laidByText := true, laidKinds := [.data, .data, .data, .sentinel, .sentinel], laidTests := true, laidLooks := .later }
def FnExactParseIslandUptoCardSaid : Prop := Claim7.holds Tryd.pinned (.plain (OpenSpec.upto fnExactParseIslandSpec)) fnExactParseIslandUptoCard

/-- THE SECOND FORM's CARD OF 'laws.FnIslandsMeasuredOfAll'. -/
def fnIslandsMeasuredOfAllUptoCard : Claim7 := { stood := { row := fnIslandsMeasuredOfAllUptoRow, standIns := [], harness := (true, "f39a220eb0bcdf520f742277de6c3b5a3be3da1e97b13e8e46b1dd284489243c"), looks := true }, kinds := [], alts := [], laidByText := true, laidKinds := [.data, .data, .data, .sentinel, .sentinel], laidTests := true, laidLooks := .later }
def FnIslandsMeasuredOfAllUptoCardSaid : Prop := Claim7.holds Tryd.pinned (.plain (OpenSpec.upto fnIslandsMeasuredOfAllSpec)) fnIslandsMeasuredOfAllUptoCard
end Rows
end Go.Proofs.YtbmipfhhglalpaaDoor
