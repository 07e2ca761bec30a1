/-
  No cell of these rows narrows 'for every input' (looked for: loops, veiled, ifaces, maps, wideKeys, modest, calm, conditions, laid).
  DERIVED. THE GIVEN ROWS OF THIS SEAT. 4 by the template 'for every input the law returns true; each argument reads behind the call as it read before'; 0 by the template 'total and deterministic' (their statements: YtflldpkfgldkaaaTotals.lean).
  GIVEN WITH THE SEED: the statements are not yours to turn. If you find one false, say at which input.
  Laid BY PROGRAM, IN A SANDBOX (cutbox-rows.mjs): the forced cells as the released guide's own fill.sh prints them over the translation e924da26a9b6cdad… (all of the seat's roots in one cut). By AI agents, Wed Nov 11 2026. No macro, syntax, notation, axiom, sorry.
-/
import Derived.Test.YtflldpkfgldkaaaChecked
import GoSem.Claim
import GoSem.ClaimJoined
import GoSem.ClaimMapViews
import Derived.JoinedTies
import Derived.KernelRfl
namespace Go.Proofs.Ytflldpkfgldkaaa
/- THE CELL 'sum', in the pinned program and in every row, IS THE sha256 OF THE DUMP (.gsa) THAT YtflldpkfgldkaaaProg.lean LOADS. Nothing in Lean hashes anything: it is a label: what it is worth is what the hold of that sum in a sandbox is worth. -/
noncomputable def Try.pinned : Pinned := { name := "ytflldpkfgldkaaa", sum := "e924da26a9b6cdaddd3fdc459c83d38b117e1ba13c0af69435501c5b90b6bda5", checked := Try.checked }
namespace Rows
def none {H : Type} : Left H := { results := [], args := [] }

/-- 'laws.FnExactIslandAway': WHATEVER THE INPUT: true; the input reads as it did. -/
def fnExactIslandAwaySpec : ChangeSpec := { name := "fnExactIslandAway", fn := fun _ => fun
  | [d] => { results := [.lit (.bool true)], args := [d] }
  | _ => none }
def fnExactIslandAwayRow : OpenClaim := { program := "ytflldpkfgldkaaa", sum := "e924da26a9b6cdaddd3fdc459c83d38b117e1ba13c0af69435501c5b90b6bda5", func := "loop.example/g01351/laws.FnExactIslandAway", spec := "fnExactIslandAway", unfollowed := true, recurses := true, apart := false }
def FnExactIslandAwaySaid : Prop := fnExactIslandAwayRow.holds Try.pinned (OpenSpec.ofChange fnExactIslandAwaySpec)

/-- ITS FALSE NEIGHBOUR: 'it returns false'. Refute it at one input. -/
def fnExactIslandAwayWrong : ChangeSpec := { name := "fnExactIslandAway", fn := fun _ => fun
  | [d] => { results := [.lit (.bool false)], args := [d] }
  | _ => none }
def FnExactIslandAwayWrongFalsely : Prop := fnExactIslandAwayRow.holds Try.pinned (OpenSpec.ofChange fnExactIslandAwayWrong)

/-- 'laws.FnExactHigherByStep': WHATEVER THE INPUT: true; the input reads as it did. -/
def fnExactHigherByStepSpec : ChangeSpec := { name := "fnExactHigherByStep", fn := fun _ => fun
  | [d] => { results := [.lit (.bool true)], args := [d] }
  | _ => none }
def fnExactHigherByStepRow : OpenClaim := { program := "ytflldpkfgldkaaa", sum := "e924da26a9b6cdaddd3fdc459c83d38b117e1ba13c0af69435501c5b90b6bda5", func := "loop.example/g01351/laws.FnExactHigherByStep", spec := "fnExactHigherByStep", unfollowed := true, recurses := true, apart := false }
def FnExactHigherByStepSaid : Prop := fnExactHigherByStepRow.holds Try.pinned (OpenSpec.ofChange fnExactHigherByStepSpec)

/-- ITS FALSE NEIGHBOUR: 'it returns false'. Refute it at one input. -/
def fnExactHigherByStepWrong : ChangeSpec := { name := "fnExactHigherByStep", fn := fun _ => fun
  | [d] => { results := [.lit (.bool false)], args := [d] }
  | _ => none }
def FnExactHigherByStepWrongFalsely : Prop := fnExactHigherByStepRow.holds Try.pinned (OpenSpec.ofChange fnExactHigherByStepWrong)

/-- 'laws.FnExactIslandHeight': WHATEVER THE INPUT: true; the input reads as it did. -/
def fnExactIslandHeightSpec : ChangeSpec := { name := "fnExactIslandHeight", fn := fun _ => fun
  | [d] => { results := [.lit (.bool true)], args := [d] }
  | _ => none }
def fnExactIslandHeightRow : OpenClaim := { program := "ytflldpkfgldkaaa", sum := "e924da26a9b6cdaddd3fdc459c83d38b117e1ba13c0af69435501c5b90b6bda5", func := "loop.example/g01351/laws.FnExactIslandHeight", spec := "fnExactIslandHeight", unfollowed := true, recurses := true, apart := false }
def FnExactIslandHeightSaid : Prop := fnExactIslandHeightRow.holds Try.pinned (OpenSpec.ofChange fnExactIslandHeightSpec)

/-- ITS FALSE NEIGHBOUR: 'it returns false'. Refute it at one input. -/
def fnExactIslandHeightWrong : ChangeSpec := { name := "fnExactIslandHeight", fn := fun _ => fun
  | [d] => { results := [.lit (.bool false)], args := [d] }
  | _ => none }
def FnExactIslandHeightWrongFalsely : Prop := fnExactIslandHeightRow.holds Try.pinned (OpenSpec.ofChange fnExactIslandHeightWrong)

/-- 'laws.FnExactTimesIsland': WHATEVER THE INPUT: true; the input reads as it did. -/
def fnExactTimesIslandSpec : ChangeSpec := { name := "fnExactTimesIsland", fn := fun _ => fun
  | [d1, d2] => { results := [.lit (.bool true)], args := [d1, d2] }
  | _ => none }
def fnExactTimesIslandRow : OpenClaim := { program := "ytflldpkfgldkaaa", sum := "e924da26a9b6cdaddd3fdc459c83d38b117e1ba13c0af69435501c5b90b6bda5", func := "loop.example/g01351/laws.FnExactTimesIsland", spec := "fnExactTimesIsland", unfollowed := true, recurses := true, apart := false }
def FnExactTimesIslandSaid : Prop := fnExactTimesIslandRow.holds Try.pinned (OpenSpec.ofChange fnExactTimesIslandSpec)

/-- ITS FALSE NEIGHBOUR: 'it returns false'. Refute it at one input. -/
def fnExactTimesIslandWrong : ChangeSpec := { name := "fnExactTimesIsland", fn := fun _ => fun
  | [d1, d2] => { results := [.lit (.bool false)], args := [d1, d2] }
  | _ => none }
def FnExactTimesIslandWrongFalsely : Prop := fnExactTimesIslandRow.holds Try.pinned (OpenSpec.ofChange fnExactTimesIslandWrong)

/- THE SECOND FORM. 'bulk': how many values and letters a reading holds, each counted each time it is reached (what is shared counts as often as it is met; a slice's spare places count too). A statement '..UptoSaid' is the law's where the arguments, and the package variables that the reading takes, are together of bulk at most 1048576: NARROWER than '..Said'. Prove '..Said' where nothing that the law and all that it calls make is longer than what came in: it says more and counts as full. Else prove '..UptoSaid'. A law counts once. -/
mutual
def uptoBulk {H : Type} : DataW H → Nat
  | .lit (.string bytes) => bytes.length + 1
  | .lit _ => 1
  | .nil => 1
  | .ptr d => uptoBulk d + 1
  | .slice elems spare => uptoBulkAll elems + uptoBulkAll spare + 1
  | .agg parts => uptoBulkAll parts + 1
  | .iface _ d => uptoBulk d + 1
  | .map entries => uptoBulkEntries entries + 1
  | .held _ => 1
def uptoBulkAll {H : Type} : List (DataW H) → Nat
  | [] => 0
  | d :: r => uptoBulk d + uptoBulkAll r
def uptoBulkEntries {H : Type} : List (Lit × DataW H) → Nat
  | [] => 0
  | x :: r => uptoBulkEntry x + uptoBulkEntries r
def uptoBulkEntry {H : Type} : Lit × DataW H → Nat
  | (.string bytes, d) => bytes.length + uptoBulk d + 1
  | (_, d) => uptoBulk d + 1
 end
def uptoSmall : (H : Type) → List (DataW H) → Bool := fun _ ds => decide (uptoBulkAll ds ≤ 1048576)
def OpenSpec.upto (s : _root_.Go.ChangeSpec) : _root_.Go.OpenSpec := { _root_.Go.OpenSpec.ofChange s with cond := some uptoSmall }

/-- 'laws.FnExactIslandAway', WHERE WHAT IT READS IS OF BULK AT MOST 1048576: true; the input reads as it did. -/
def fnExactIslandAwayUptoRow : OpenClaim := { program := "ytflldpkfgldkaaa", sum := "e924da26a9b6cdaddd3fdc459c83d38b117e1ba13c0af69435501c5b90b6bda5", func := "loop.example/g01351/laws.FnExactIslandAway", spec := "fnExactIslandAway", unfollowed := true, recurses := true, apart := false, narrowed := true }
def FnExactIslandAwayUptoSaid : Prop := fnExactIslandAwayUptoRow.holds Try.pinned (OpenSpec.upto fnExactIslandAwaySpec)

/-- 'laws.FnExactHigherByStep', WHERE WHAT IT READS IS OF BULK AT MOST 1048576: true; the input reads as it did. -/
def fnExactHigherByStepUptoRow : OpenClaim := { program := "ytflldpkfgldkaaa", sum := "e924da26a9b6cdaddd3fdc459c83d38b117e1ba13c0af69435501c5b90b6bda5", func := "loop.example/g01351/laws.FnExactHigherByStep", spec := "fnExactHigherByStep", unfollowed := true, recurses := true, apart := false, narrowed := true }
def FnExactHigherByStepUptoSaid : Prop := fnExactHigherByStepUptoRow.holds Try.pinned (OpenSpec.upto fnExactHigherByStepSpec)

/-- 'laws.FnExactIslandHeight', WHERE WHAT IT READS IS OF BULK AT MOST 1048576: true; the input reads as it did. -/
def fnExactIslandHeightUptoRow : OpenClaim := { program := "ytflldpkfgldkaaa", sum := "e924da26a9b6cdaddd3fdc459c83d38b117e1ba13c0af69435501c5b90b6bda5", func := "loop.example/g01351/laws.FnExactIslandHeight", spec := "fnExactIslandHeight", unfollowed := true, recurses := true, apart := false, narrowed := true }
def FnExactIslandHeightUptoSaid : Prop := fnExactIslandHeightUptoRow.holds Try.pinned (OpenSpec.upto fnExactIslandHeightSpec)

/-- 'laws.FnExactTimesIsland', WHERE WHAT IT READS IS OF BULK AT MOST 1048576: true; the input reads as it did. -/
def fnExactTimesIslandUptoRow : OpenClaim := { program := "ytflldpkfgldkaaa", sum := "e924da26a9b6cdaddd3fdc459c83d38b117e1ba13c0af69435501c5b90b6bda5", func := "loop.example/g01351/laws.FnExactTimesIsland", spec := "fnExactTimesIsland", unfollowed := true, recurses := true, apart := false, narrowed := true }
def FnExactTimesIslandUptoSaid : Prop := fnExactTimesIslandUptoRow.holds Try.pinned (OpenSpec.upto fnExactTimesIslandSpec)

end Rows
end Go.Proofs.Ytflldpkfgldkaaa
