/-
  DERIVED. GIVEN WITH THE SEED: THE CARDS: each row of YtknjpbkkbnmfaaaGreatDoorRows.lean that lists a variable, with what it lists TIED to the program's text (the seventh form; the later family's looks); each row that meets fmt, with fmt's text TOLD by the authors' own Lean function (tested against real Go, not proved from fmt's source: count such statements apart). THE CARD IS WHAT COUNTS. Prove the row's statement (the work); the ties are given (YtknjpbkkbnmfaaaGreatDoorTie.lean); close each card by the builder's one call (the guide's Derived/Test/ToyasCard.lean, 'card_holds'). Laid BY PROGRAM, IN A SANDBOX (cutbox-door.mjs). By AI agents, Wed Nov 11 2026. No macro, syntax, notation, axiom, sorry.
-/
import Derived.Test.YtknjpbkkbnmfaaaGreatDoorRows
import GoSem.ClaimSeven
namespace Go.Proofs.YtknjpbkkbnmfaaaGreatDoor
namespace Rows

/-- THE TIED CARD OF 'laws.FnShadowsDark'. -/
def fnShadowsDarkCard : Claim7 := { stood := { row := fnShadowsDarkRow, standIns := [], harness := (true, "76848dcc3497deab470973cc7de6c3968a7a915518f84bafa617e02ec3314d5d"), looks := true }, kinds := [], alts := [], laidByText := true, laidKinds := [.data, .data, .data, .data, .sentinel, .sentinel, .pinned], laidTests := true, laidLooks := .later }
def FnShadowsDarkCardSaid : Prop := Claim7.holds Tryz.pinned (.plain (OpenSpec.ofChange fnShadowsDarkSpec)) fnShadowsDarkCard

/-- THE SECOND FORM's CARD OF 'laws.FnShadowsDark'. -/
def fnShadowsDarkUptoCard : Claim7 := { stood := { row := fnShadowsDarkUptoRow, standIns := [], harness := (true, "76848dcc3497deab470973cc7de6c3968a7a915518f84bafa617e02ec3314d5d"), looks := true }, kinds := [], alts := [], laidByText := true, laidKinds := [.data, .data, .data, .data, .sentinel, .sentinel, .pinned], laidTests := true, laidLooks := .later }
def FnShadowsDarkUptoCardSaid : Prop := Claim7.holds Tryz.pinned (.plain (OpenSpec.upto fnShadowsDarkSpec)) fnShadowsDarkUptoCard
end Rows
end Go.Proofs.YtknjpbkkbnmfaaaGreatDoor
