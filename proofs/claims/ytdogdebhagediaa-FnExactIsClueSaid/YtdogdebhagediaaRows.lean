/-
  No cell of these rows narrows 'for every input' (looked for: loops, veiled, ifaces, maps, wideKeys, modest, calm, conditions, laid).
  DERIVED. THE GIVEN ROWS OF THIS SEAT. 12 by the template 'for every input the law returns true; each argument reads behind the call as it read before'; 0 by the template 'total and deterministic' (their statements: YtdogdebhagediaaTotals.lean).
  GIVEN WITH THE SEED: the statements are not yours to turn. If you find one false, say at which input.
  Laid BY PROGRAM, IN A SANDBOX (cutbox-rows.mjs): the forced cells as the released guide's own fill.sh prints them over the translation bf3c744f54bb988a… (all of the seat's roots in one cut). By AI agents, Wed Nov 11 2026. No macro, syntax, notation, axiom, sorry.
-/
import Derived.Test.YtdogdebhagediaaChecked
import GoSem.Claim
import GoSem.ClaimJoined
import GoSem.ClaimMapViews
import Derived.JoinedTies
import Derived.KernelRfl
namespace Go.Proofs.Ytdogdebhagediaa
/- THE CELL 'sum', in the pinned program and in every row, IS THE sha256 OF THE DUMP (.gsa) THAT YtdogdebhagediaaProg.lean LOADS. Nothing in Lean hashes anything: it is a label: what it is worth is what the hold of that sum in a sandbox is worth. -/
noncomputable def Try.pinned : Pinned := { name := "ytdogdebhagediaa", sum := "bf3c744f54bb988abfde4c7d57ec0cd84f54deab1791ba66cb710e760bc58fee", checked := Try.checked }
namespace Rows
def none {H : Type} : Left H := { results := [], args := [] }

/-- 'laws.FnExactIsIsland': WHATEVER THE INPUT: true; the input reads as it did. -/
def fnExactIsIslandSpec : ChangeSpec := { name := "fnExactIsIsland", fn := fun _ => fun
  | [d] => { results := [.lit (.bool true)], args := [d] }
  | _ => none }
def fnExactIsIslandRow : OpenClaim := { program := "ytdogdebhagediaa", sum := "bf3c744f54bb988abfde4c7d57ec0cd84f54deab1791ba66cb710e760bc58fee", func := "loop.example/g01351/laws.FnExactIsIsland", spec := "fnExactIsIsland", unfollowed := true, recurses := true, apart := false }
def FnExactIsIslandSaid : Prop := fnExactIsIslandRow.holds Try.pinned (OpenSpec.ofChange fnExactIsIslandSpec)

/-- ITS FALSE NEIGHBOUR: 'it returns false'. Refute it at one input. -/
def fnExactIsIslandWrong : ChangeSpec := { name := "fnExactIsIsland", fn := fun _ => fun
  | [d] => { results := [.lit (.bool false)], args := [d] }
  | _ => none }
def FnExactIsIslandWrongFalsely : Prop := fnExactIsIslandRow.holds Try.pinned (OpenSpec.ofChange fnExactIsIslandWrong)

/-- 'laws.FnExactIsClue': WHATEVER THE INPUT: true; the input reads as it did. -/
def fnExactIsClueSpec : ChangeSpec := { name := "fnExactIsClue", fn := fun _ => fun
  | [d1, d2] => { results := [.lit (.bool true)], args := [d1, d2] }
  | _ => none }
def fnExactIsClueRow : OpenClaim := { program := "ytdogdebhagediaa", sum := "bf3c744f54bb988abfde4c7d57ec0cd84f54deab1791ba66cb710e760bc58fee", func := "loop.example/g01351/laws.FnExactIsClue", spec := "fnExactIsClue", apart := false }
def FnExactIsClueSaid : Prop := fnExactIsClueRow.holds Try.pinned (OpenSpec.ofChange fnExactIsClueSpec)

/-- ITS FALSE NEIGHBOUR: 'it returns false'. Refute it at one input. -/
def fnExactIsClueWrong : ChangeSpec := { name := "fnExactIsClue", fn := fun _ => fun
  | [d1, d2] => { results := [.lit (.bool false)], args := [d1, d2] }
  | _ => none }
def FnExactIsClueWrongFalsely : Prop := fnExactIsClueRow.holds Try.pinned (OpenSpec.ofChange fnExactIsClueWrong)

/-- 'laws.FnExactRiverWide': WHATEVER THE INPUT: true; the input reads as it did. -/
def fnExactRiverWideSpec : ChangeSpec := { name := "fnExactRiverWide", fn := fun _ => fun
  | [d1, d2, d3] => { results := [.lit (.bool true)], args := [d1, d2, d3] }
  | _ => none }
def fnExactRiverWideRow : OpenClaim := { program := "ytdogdebhagediaa", sum := "bf3c744f54bb988abfde4c7d57ec0cd84f54deab1791ba66cb710e760bc58fee", func := "loop.example/g01351/laws.FnExactRiverWide", spec := "fnExactRiverWide", unfollowed := true, recurses := true, apart := false }
def FnExactRiverWideSaid : Prop := fnExactRiverWideRow.holds Try.pinned (OpenSpec.ofChange fnExactRiverWideSpec)

/-- ITS FALSE NEIGHBOUR: 'it returns false'. Refute it at one input. -/
def fnExactRiverWideWrong : ChangeSpec := { name := "fnExactRiverWide", fn := fun _ => fun
  | [d1, d2, d3] => { results := [.lit (.bool false)], args := [d1, d2, d3] }
  | _ => none }
def FnExactRiverWideWrongFalsely : Prop := fnExactRiverWideRow.holds Try.pinned (OpenSpec.ofChange fnExactRiverWideWrong)

/-- 'laws.FnExactDistanceByTwoSights': WHATEVER THE INPUT: true; the input reads as it did. -/
def fnExactDistanceByTwoSightsSpec : ChangeSpec := { name := "fnExactDistanceByTwoSights", fn := fun _ => fun
  | [d1, d2, d3] => { results := [.lit (.bool true)], args := [d1, d2, d3] }
  | _ => none }
def fnExactDistanceByTwoSightsRow : OpenClaim := { program := "ytdogdebhagediaa", sum := "bf3c744f54bb988abfde4c7d57ec0cd84f54deab1791ba66cb710e760bc58fee", func := "loop.example/g01351/laws.FnExactDistanceByTwoSights", spec := "fnExactDistanceByTwoSights", unfollowed := true, recurses := true, apart := false }
def FnExactDistanceByTwoSightsSaid : Prop := fnExactDistanceByTwoSightsRow.holds Try.pinned (OpenSpec.ofChange fnExactDistanceByTwoSightsSpec)

/-- ITS FALSE NEIGHBOUR: 'it returns false'. Refute it at one input. -/
def fnExactDistanceByTwoSightsWrong : ChangeSpec := { name := "fnExactDistanceByTwoSights", fn := fun _ => fun
  | [d1, d2, d3] => { results := [.lit (.bool false)], args := [d1, d2, d3] }
  | _ => none }
def FnExactDistanceByTwoSightsWrongFalsely : Prop := fnExactDistanceByTwoSightsRow.holds Try.pinned (OpenSpec.ofChange fnExactDistanceByTwoSightsWrong)

/-- 'laws.FnExactTowerByTwoSights': WHATEVER THE INPUT: true; the input reads as it did. -/
def fnExactTowerByTwoSightsSpec : ChangeSpec := { name := "fnExactTowerByTwoSights", fn := fun _ => fun
  | [d1, d2, d3] => { results := [.lit (.bool true)], args := [d1, d2, d3] }
  | _ => none }
def fnExactTowerByTwoSightsRow : OpenClaim := { program := "ytdogdebhagediaa", sum := "bf3c744f54bb988abfde4c7d57ec0cd84f54deab1791ba66cb710e760bc58fee", func := "loop.example/g01351/laws.FnExactTowerByTwoSights", spec := "fnExactTowerByTwoSights", unfollowed := true, recurses := true, apart := false }
def FnExactTowerByTwoSightsSaid : Prop := fnExactTowerByTwoSightsRow.holds Try.pinned (OpenSpec.ofChange fnExactTowerByTwoSightsSpec)

/-- ITS FALSE NEIGHBOUR: 'it returns false'. Refute it at one input. -/
def fnExactTowerByTwoSightsWrong : ChangeSpec := { name := "fnExactTowerByTwoSights", fn := fun _ => fun
  | [d1, d2, d3] => { results := [.lit (.bool false)], args := [d1, d2, d3] }
  | _ => none }
def FnExactTowerByTwoSightsWrongFalsely : Prop := fnExactTowerByTwoSightsRow.holds Try.pinned (OpenSpec.ofChange fnExactTowerByTwoSightsWrong)

/-- 'laws.FnExactStaffForTree': WHATEVER THE INPUT: true; the input reads as it did. -/
def fnExactStaffForTreeSpec : ChangeSpec := { name := "fnExactStaffForTree", fn := fun _ => fun
  | [d1, d2, d3, d4] => { results := [.lit (.bool true)], args := [d1, d2, d3, d4] }
  | _ => none }
def fnExactStaffForTreeRow : OpenClaim := { program := "ytdogdebhagediaa", sum := "bf3c744f54bb988abfde4c7d57ec0cd84f54deab1791ba66cb710e760bc58fee", func := "loop.example/g01351/laws.FnExactStaffForTree", spec := "fnExactStaffForTree", unfollowed := true, recurses := true, apart := false }
def FnExactStaffForTreeSaid : Prop := fnExactStaffForTreeRow.holds Try.pinned (OpenSpec.ofChange fnExactStaffForTreeSpec)

/-- ITS FALSE NEIGHBOUR: 'it returns false'. Refute it at one input. -/
def fnExactStaffForTreeWrong : ChangeSpec := { name := "fnExactStaffForTree", fn := fun _ => fun
  | [d1, d2, d3, d4] => { results := [.lit (.bool false)], args := [d1, d2, d3, d4] }
  | _ => none }
def FnExactStaffForTreeWrongFalsely : Prop := fnExactStaffForTreeRow.holds Try.pinned (OpenSpec.ofChange fnExactStaffForTreeWrong)

/-- 'laws.FnExactTowerByShadow': WHATEVER THE INPUT: true; the input reads as it did. -/
def fnExactTowerByShadowSpec : ChangeSpec := { name := "fnExactTowerByShadow", fn := fun _ => fun
  | [d1, d2, d3] => { results := [.lit (.bool true)], args := [d1, d2, d3] }
  | _ => none }
def fnExactTowerByShadowRow : OpenClaim := { program := "ytdogdebhagediaa", sum := "bf3c744f54bb988abfde4c7d57ec0cd84f54deab1791ba66cb710e760bc58fee", func := "loop.example/g01351/laws.FnExactTowerByShadow", spec := "fnExactTowerByShadow", unfollowed := true, recurses := true, apart := false }
def FnExactTowerByShadowSaid : Prop := fnExactTowerByShadowRow.holds Try.pinned (OpenSpec.ofChange fnExactTowerByShadowSpec)

/-- ITS FALSE NEIGHBOUR: 'it returns false'. Refute it at one input. -/
def fnExactTowerByShadowWrong : ChangeSpec := { name := "fnExactTowerByShadow", fn := fun _ => fun
  | [d1, d2, d3] => { results := [.lit (.bool false)], args := [d1, d2, d3] }
  | _ => none }
def FnExactTowerByShadowWrongFalsely : Prop := fnExactTowerByShadowRow.holds Try.pinned (OpenSpec.ofChange fnExactTowerByShadowWrong)

/-- 'laws.FnExactTreeByStaff': WHATEVER THE INPUT: true; the input reads as it did. -/
def fnExactTreeByStaffSpec : ChangeSpec := { name := "fnExactTreeByStaff", fn := fun _ => fun
  | [d1, d2, d3, d4] => { results := [.lit (.bool true)], args := [d1, d2, d3, d4] }
  | _ => none }
def fnExactTreeByStaffRow : OpenClaim := { program := "ytdogdebhagediaa", sum := "bf3c744f54bb988abfde4c7d57ec0cd84f54deab1791ba66cb710e760bc58fee", func := "loop.example/g01351/laws.FnExactTreeByStaff", spec := "fnExactTreeByStaff", unfollowed := true, recurses := true, apart := false }
def FnExactTreeByStaffSaid : Prop := fnExactTreeByStaffRow.holds Try.pinned (OpenSpec.ofChange fnExactTreeByStaffSpec)

/-- ITS FALSE NEIGHBOUR: 'it returns false'. Refute it at one input. -/
def fnExactTreeByStaffWrong : ChangeSpec := { name := "fnExactTreeByStaff", fn := fun _ => fun
  | [d1, d2, d3, d4] => { results := [.lit (.bool false)], args := [d1, d2, d3, d4] }
  | _ => none }
def FnExactTreeByStaffWrongFalsely : Prop := fnExactTreeByStaffRow.holds Try.pinned (OpenSpec.ofChange fnExactTreeByStaffWrong)

/-- 'laws.FnExactSecondStep': WHATEVER THE INPUT: true; the input reads as it did. -/
def fnExactSecondStepSpec : ChangeSpec := { name := "fnExactSecondStep", fn := fun _ => fun
  | [d1, d2, d3, d4] => { results := [.lit (.bool true)], args := [d1, d2, d3, d4] }
  | _ => none }
def fnExactSecondStepRow : OpenClaim := { program := "ytdogdebhagediaa", sum := "bf3c744f54bb988abfde4c7d57ec0cd84f54deab1791ba66cb710e760bc58fee", func := "loop.example/g01351/laws.FnExactSecondStep", spec := "fnExactSecondStep", unfollowed := true, recurses := true, apart := false }
def FnExactSecondStepSaid : Prop := fnExactSecondStepRow.holds Try.pinned (OpenSpec.ofChange fnExactSecondStepSpec)

/-- ITS FALSE NEIGHBOUR: 'it returns false'. Refute it at one input. -/
def fnExactSecondStepWrong : ChangeSpec := { name := "fnExactSecondStep", fn := fun _ => fun
  | [d1, d2, d3, d4] => { results := [.lit (.bool false)], args := [d1, d2, d3, d4] }
  | _ => none }
def FnExactSecondStepWrongFalsely : Prop := fnExactSecondStepRow.holds Try.pinned (OpenSpec.ofChange fnExactSecondStepWrong)

/-- 'laws.FnExactStepsForIsland': WHATEVER THE INPUT: true; the input reads as it did. -/
def fnExactStepsForIslandSpec : ChangeSpec := { name := "fnExactStepsForIsland", fn := fun _ => fun
  | [d1, d2, d3, d4] => { results := [.lit (.bool true)], args := [d1, d2, d3, d4] }
  | _ => none }
def fnExactStepsForIslandRow : OpenClaim := { program := "ytdogdebhagediaa", sum := "bf3c744f54bb988abfde4c7d57ec0cd84f54deab1791ba66cb710e760bc58fee", func := "loop.example/g01351/laws.FnExactStepsForIsland", spec := "fnExactStepsForIsland", unfollowed := true, recurses := true, apart := false }
def FnExactStepsForIslandSaid : Prop := fnExactStepsForIslandRow.holds Try.pinned (OpenSpec.ofChange fnExactStepsForIslandSpec)

/-- ITS FALSE NEIGHBOUR: 'it returns false'. Refute it at one input. -/
def fnExactStepsForIslandWrong : ChangeSpec := { name := "fnExactStepsForIsland", fn := fun _ => fun
  | [d1, d2, d3, d4] => { results := [.lit (.bool false)], args := [d1, d2, d3, d4] }
  | _ => none }
def FnExactStepsForIslandWrongFalsely : Prop := fnExactStepsForIslandRow.holds Try.pinned (OpenSpec.ofChange fnExactStepsForIslandWrong)

/-- 'laws.FnExactTowerByMirror': WHATEVER THE INPUT: true; the input reads as it did. -/
def fnExactTowerByMirrorSpec : ChangeSpec := { name := "fnExactTowerByMirror", fn := fun _ => fun
  | [d1, d2, d3] => { results := [.lit (.bool true)], args := [d1, d2, d3] }
  | _ => none }
def fnExactTowerByMirrorRow : OpenClaim := { program := "ytdogdebhagediaa", sum := "bf3c744f54bb988abfde4c7d57ec0cd84f54deab1791ba66cb710e760bc58fee", func := "loop.example/g01351/laws.FnExactTowerByMirror", spec := "fnExactTowerByMirror", unfollowed := true, recurses := true, apart := false }
def FnExactTowerByMirrorSaid : Prop := fnExactTowerByMirrorRow.holds Try.pinned (OpenSpec.ofChange fnExactTowerByMirrorSpec)

/-- ITS FALSE NEIGHBOUR: 'it returns false'. Refute it at one input. -/
def fnExactTowerByMirrorWrong : ChangeSpec := { name := "fnExactTowerByMirror", fn := fun _ => fun
  | [d1, d2, d3] => { results := [.lit (.bool false)], args := [d1, d2, d3] }
  | _ => none }
def FnExactTowerByMirrorWrongFalsely : Prop := fnExactTowerByMirrorRow.holds Try.pinned (OpenSpec.ofChange fnExactTowerByMirrorWrong)

/-- 'laws.FnExactWellDepth': WHATEVER THE INPUT: true; the input reads as it did. -/
def fnExactWellDepthSpec : ChangeSpec := { name := "fnExactWellDepth", fn := fun _ => fun
  | [d1, d2, d3] => { results := [.lit (.bool true)], args := [d1, d2, d3] }
  | _ => none }
def fnExactWellDepthRow : OpenClaim := { program := "ytdogdebhagediaa", sum := "bf3c744f54bb988abfde4c7d57ec0cd84f54deab1791ba66cb710e760bc58fee", func := "loop.example/g01351/laws.FnExactWellDepth", spec := "fnExactWellDepth", unfollowed := true, recurses := true, apart := false }
def FnExactWellDepthSaid : Prop := fnExactWellDepthRow.holds Try.pinned (OpenSpec.ofChange fnExactWellDepthSpec)

/-- ITS FALSE NEIGHBOUR: 'it returns false'. Refute it at one input. -/
def fnExactWellDepthWrong : ChangeSpec := { name := "fnExactWellDepth", fn := fun _ => fun
  | [d1, d2, d3] => { results := [.lit (.bool false)], args := [d1, d2, d3] }
  | _ => none }
def FnExactWellDepthWrongFalsely : Prop := fnExactWellDepthRow.holds Try.pinned (OpenSpec.ofChange fnExactWellDepthWrong)

/- THE SECOND FORM. 'bulk': how many values and letters a reading holds, each counted each time it is reached (what is shared counts as often as it is met; a slice's spare places count too). A statement '..UptoSaid' is the law's where the arguments, and the package variables that the reading takes, are together of bulk at most 1048576: NARROWER than '..Said'. Prove '..Said' where nothing that the law and all that it calls make is longer than what came in: it says more and counts as full. Else prove '..UptoSaid'. A law counts once. -/
mutual
def uptoBulk {H : Type} : DataW H → Nat
  | .lit (.string bytes) => bytes.length + 1
  | .lit _ => 1
  | .nil => 1
  | .ptr d => uptoBulk d + 1
  | .slice elems spare => uptoBulkAll elems + uptoBulkAll spare + 1
  | .agg parts => uptoBulkAll parts + 1
  | .iface _ d => uptoBulk d + 1
  | .map entries => uptoBulkEntries entries + 1
  | .held _ => 1
def uptoBulkAll {H : Type} : List (DataW H) → Nat
  | [] => 0
  | d :: r => uptoBulk d + uptoBulkAll r
def uptoBulkEntries {H : Type} : List (Lit × DataW H) → Nat
  | [] => 0
  | x :: r => uptoBulkEntry x + uptoBulkEntries r
def uptoBulkEntry {H : Type} : Lit × DataW H → Nat
  | (.string bytes, d) => bytes.length + uptoBulk d + 1
  | (_, d) => uptoBulk d + 1
 end
def uptoSmall : (H : Type) → List (DataW H) → Bool := fun _ ds => decide (uptoBulkAll ds ≤ 1048576)
def OpenSpec.upto (s : _root_.Go.ChangeSpec) : _root_.Go.OpenSpec := { _root_.Go.OpenSpec.ofChange s with cond := some uptoSmall }

/-- 'laws.FnExactIsIsland', WHERE WHAT IT READS IS OF BULK AT MOST 1048576: true; the input reads as it did. -/
def fnExactIsIslandUptoRow : OpenClaim := { program := "ytdogdebhagediaa", sum := "bf3c744f54bb988abfde4c7d57ec0cd84f54deab1791ba66cb710e760bc58fee", func := "loop.example/g01351/laws.FnExactIsIsland", spec := "fnExactIsIsland", unfollowed := true, recurses := true, apart := false, narrowed := true }
def FnExactIsIslandUptoSaid : Prop := fnExactIsIslandUptoRow.holds Try.pinned (OpenSpec.upto fnExactIsIslandSpec)

/-- 'laws.FnExactIsClue', WHERE WHAT IT READS IS OF BULK AT MOST 1048576: true; the input reads as it did. -/
def fnExactIsClueUptoRow : OpenClaim := { program := "ytdogdebhagediaa", sum := "bf3c744f54bb988abfde4c7d57ec0cd84f54deab1791ba66cb710e760bc58fee", func := "loop.example/g01351/laws.FnExactIsClue", spec := "fnExactIsClue", apart := false, narrowed := true }
def FnExactIsClueUptoSaid : Prop := fnExactIsClueUptoRow.holds Try.pinned (OpenSpec.upto fnExactIsClueSpec)

/-- 'laws.FnExactRiverWide', WHERE WHAT IT READS IS OF BULK AT MOST 1048576: true; the input reads as it did. -/
def fnExactRiverWideUptoRow : OpenClaim := { program := "ytdogdebhagediaa", sum := "bf3c744f54bb988abfde4c7d57ec0cd84f54deab1791ba66cb710e760bc58fee", func := "loop.example/g01351/laws.FnExactRiverWide", spec := "fnExactRiverWide", unfollowed := true, recurses := true, apart := false, narrowed := true }
def FnExactRiverWideUptoSaid : Prop := fnExactRiverWideUptoRow.holds Try.pinned (OpenSpec.upto fnExactRiverWideSpec)

/-- 'laws.FnExactDistanceByTwoSights', WHERE WHAT IT READS IS OF BULK AT MOST 1048576: true; the input reads as it did. -/
def fnExactDistanceByTwoSightsUptoRow : OpenClaim := { program := "ytdogdebhagediaa", sum := "bf3c744f54bb988abfde4c7d57ec0cd84f54deab1791ba66cb710e760bc58fee", func := "loop.example/g01351/laws.FnExactDistanceByTwoSights", spec := "fnExactDistanceByTwoSights", unfollowed := true, recurses := true, apart := false, narrowed := true }
def FnExactDistanceByTwoSightsUptoSaid : Prop := fnExactDistanceByTwoSightsUptoRow.holds Try.pinned (OpenSpec.upto fnExactDistanceByTwoSightsSpec)

/-- 'laws.FnExactTowerByTwoSights', WHERE WHAT IT READS IS OF BULK AT MOST 1048576: true; the input reads as it did. -/
def fnExactTowerByTwoSightsUptoRow : OpenClaim := { program := "ytdogdebhagediaa", sum := "bf3c744f54bb988abfde4c7d57ec0cd84f54deab1791ba66cb710e760bc58fee", func := "loop.example/g01351/laws.FnExactTowerByTwoSights", spec := "fnExactTowerByTwoSights", unfollowed := true, recurses := true, apart := false, narrowed := true }
def FnExactTowerByTwoSightsUptoSaid : Prop := fnExactTowerByTwoSightsUptoRow.holds Try.pinned (OpenSpec.upto fnExactTowerByTwoSightsSpec)

/-- 'laws.FnExactStaffForTree', WHERE WHAT IT READS IS OF BULK AT MOST 1048576: true; the input reads as it did. -/
def fnExactStaffForTreeUptoRow : OpenClaim := { program := "ytdogdebhagediaa", sum := "bf3c744f54bb988abfde4c7d57ec0cd84f54deab1791ba66cb710e760bc58fee", func := "loop.example/g01351/laws.FnExactStaffForTree", spec := "fnExactStaffForTree", unfollowed := true, recurses := true, apart := false, narrowed := true }
def FnExactStaffForTreeUptoSaid : Prop := fnExactStaffForTreeUptoRow.holds Try.pinned (OpenSpec.upto fnExactStaffForTreeSpec)

/-- 'laws.FnExactTowerByShadow', WHERE WHAT IT READS IS OF BULK AT MOST 1048576: true; the input reads as it did. -/
def fnExactTowerByShadowUptoRow : OpenClaim := { program := "ytdogdebhagediaa", sum := "bf3c744f54bb988abfde4c7d57ec0cd84f54deab1791ba66cb710e760bc58fee", func := "loop.example/g01351/laws.FnExactTowerByShadow", spec := "fnExactTowerByShadow", unfollowed := true, recurses := true, apart := false, narrowed := true }
def FnExactTowerByShadowUptoSaid : Prop := fnExactTowerByShadowUptoRow.holds Try.pinned (OpenSpec.upto fnExactTowerByShadowSpec)

/-- 'laws.FnExactTreeByStaff', WHERE WHAT IT READS IS OF BULK AT MOST 1048576: true; the input reads as it did. -/
def fnExactTreeByStaffUptoRow : OpenClaim := { program := "ytdogdebhagediaa", sum := "bf3c744f54bb988abfde4c7d57ec0cd84f54deab1791ba66cb710e760bc58fee", func := "loop.example/g01351/laws.FnExactTreeByStaff", spec := "fnExactTreeByStaff", unfollowed := true, recurses := true, apart := false, narrowed := true }
def FnExactTreeByStaffUptoSaid : Prop := fnExactTreeByStaffUptoRow.holds Try.pinned (OpenSpec.upto fnExactTreeByStaffSpec)

/-- 'laws.FnExactSecondStep', WHERE WHAT IT READS IS OF BULK AT MOST 1048576: true; the input reads as it did. -/
def fnExactSecondStepUptoRow : OpenClaim := { program := "ytdogdebhagediaa", sum := "bf3c744f54bb988abfde4c7d57ec0cd84f54deab1791ba66cb710e760bc58fee", func := "loop.example/g01351/laws.FnExactSecondStep", spec := "fnExactSecondStep", unfollowed := true, recurses := true, apart := false, narrowed := true }
def FnExactSecondStepUptoSaid : Prop := fnExactSecondStepUptoRow.holds Try.pinned (OpenSpec.upto fnExactSecondStepSpec)

/-- 'laws.FnExactStepsForIsland', WHERE WHAT IT READS IS OF BULK AT MOST 1048576: true; the input reads as it did. -/
def fnExactStepsForIslandUptoRow : OpenClaim := { program := "ytdogdebhagediaa", sum := "bf3c744f54bb988abfde4c7d57ec0cd84f54deab1791ba66cb710e760bc58fee", func := "loop.example/g01351/laws.FnExactStepsForIsland", spec := "fnExactStepsForIsland", unfollowed := true, recurses := true, apart := false, narrowed := true }
def FnExactStepsForIslandUptoSaid : Prop := fnExactStepsForIslandUptoRow.holds Try.pinned (OpenSpec.upto fnExactStepsForIslandSpec)

/-- 'laws.FnExactTowerByMirror', WHERE WHAT IT READS IS OF BULK AT MOST 1048576: true; the input reads as it did. -/
def fnExactTowerByMirrorUptoRow : OpenClaim := { program := "ytdogdebhagediaa", sum := "bf3c744f54bb988abfde4c7d57ec0cd84f54deab1791ba66cb710e760bc58fee", func := "loop.example/g01351/laws.FnExactTowerByMirror", spec := "fnExactTowerByMirror", unfollowed := true, recurses := true, apart := false, narrowed := true }
def FnExactTowerByMirrorUptoSaid : Prop := fnExactTowerByMirrorUptoRow.holds Try.pinned (OpenSpec.upto fnExactTowerByMirrorSpec)

/-- 'laws.FnExactWellDepth', WHERE WHAT IT READS IS OF BULK AT MOST 1048576: true; the input reads as it did. -/
def fnExactWellDepthUptoRow : OpenClaim := { program := "ytdogdebhagediaa", sum := "bf3c744f54bb988abfde4c7d57ec0cd84f54deab1791ba66cb710e760bc58fee", func := "loop.example/g01351/laws.FnExactWellDepth", spec := "fnExactWellDepth", unfollowed := true, recurses := true, apart := false, narrowed := true }
def FnExactWellDepthUptoSaid : Prop := fnExactWellDepthUptoRow.holds Try.pinned (OpenSpec.upto fnExactWellDepthSpec)

end Rows
end Go.Proofs.Ytdogdebhagediaa
