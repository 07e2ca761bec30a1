/- A part of this seat's proof, written by a program of this claim: Go functions as plain Lean functions, each with a proof that a call of the Go function answers as the Lean function says; and the rows of the laws. What is asked stands in each theorem. -/
import Derived.Test.YtdogdebhagediaaRows
import Derived.Test.YtdogdebhagediaaFLawsFnExactIsIsland
import Derived.Test.YtdogdebhagediaaPureFnExactIsIsland
import Derived.WalkKit
import Derived.ProofKit
import Derived.OpenShut
import Derived.ShutString
import Derived.ChangeOld
import Derived.Below
import Derived.SizedLaws
import Derived.Deep.Slices
import Derived.Deep.Fields
import Derived.ChangeSame
import Derived.Lib.SmallJoins
import Derived.Test.YtdogdebhagediaaWSized
namespace Go.Proofs.Ytdogdebhagediaa.fnExactIsIsland
open Go.ChangeShapes Go.WideShapes Go.ChangeAt Go.RowKit Go.Deep
open Go.ChangeMaps (open_string shut_string)
open Go.Proofs.YtdogdebhagediaaW.PrintWords Go.Proofs.YtdogdebhagediaaW.PrintLast Go.Proofs.YtdogdebhagediaaW.PrintMore Go.Proofs.Ytdogdebhagediaa.P
set_option linter.unusedVariables false
set_option linter.unusedSimpArgs false
theorem own : ownKnob Try.prog.godebug = none := by kernel_rfl
theorem laidOut : laidOutB Try.prog = true := by kernel_rfl
theorem cof3 : Try.prog.cellsOf 3 = 1 := by kernel_rfl
theorem cof23 : Try.prog.cellsOf 23 = 4 := by kernel_rfl
set_option maxRecDepth 100000 in
theorem open0 {H : Type} {enc : TypeId × Value → H} {W : World} {base : Nat} {v : Value} {d : DataW H} {p : List MemPlace} (hv : Value.okWide Try.prog W .any base 23 v) (h : DataW.Trod enc Try.prog W 0 (fun _ => true) true 23 v d p) :
    ∃ (a0_0 : Int) (a0_1 : Int) (a0_2 : Int) (a0_3 : Int), v = .agg #[.int .i64 a0_0, .int .i64 a0_1, .int .i64 a0_2, .int .i64 a0_3] ∧ ((Lit.int .i64 a0_0).wf = true) ∧ ((Lit.int .i64 a0_1).wf = true) ∧ ((Lit.int .i64 a0_2).wf = true) ∧ ((Lit.int .i64 a0_3).wf = true) := by
  obtain ⟨cs, rfl, hsz⟩ := okWide_struct Try.underlying23 hv
  rw [cof23] at hsz
  obtain ⟨l⟩ := cs
  match l, hsz with
  | [c_0, c_1, c_2, c_3], _ =>
    obtain ⟨fuel, hf⟩ := h
    have hf : DataW.trod enc Try.prog W 0 (fun _ => true) true fuel 23 [c_0, c_1, c_2, c_3] = some (d, p) := hf
    obtain ⟨xs1, n2, _, _, _, hl3, hg4⟩ := DataW.trod_struct Try.underlying23 hf
    obtain ⟨y5, y6, y7, y8, rfl⟩ : ∃ y5 y6 y7 y8, xs1 = [y5, y6, y7, y8] := by match xs1, hl3 with | [y5, y6, y7, y8], _ => exact ⟨y5, y6, y7, y8, rfl⟩
    have g9 : DataW.trod enc Try.prog W 0 (fun _ => true) true n2 3 [c_0] = some y5 := by have z_ : DataW.trod enc Try.prog W 0 (fun _ => true) true n2 3 (([c_0, c_1, c_2, c_3].drop 0).take (Try.prog.cellsOf 3)) = [y5, y6, y7, y8][0]? := hg4 0 _ rfl; rw [cof3] at z_; exact z_
    have g10 : DataW.trod enc Try.prog W 0 (fun _ => true) true n2 3 [c_1] = some y6 := by have z_ : DataW.trod enc Try.prog W 0 (fun _ => true) true n2 3 (([c_0, c_1, c_2, c_3].drop 1).take (Try.prog.cellsOf 3)) = [y5, y6, y7, y8][1]? := hg4 1 _ rfl; rw [cof3] at z_; exact z_
    have g11 : DataW.trod enc Try.prog W 0 (fun _ => true) true n2 3 [c_2] = some y7 := by have z_ : DataW.trod enc Try.prog W 0 (fun _ => true) true n2 3 (([c_0, c_1, c_2, c_3].drop 2).take (Try.prog.cellsOf 3)) = [y5, y6, y7, y8][2]? := hg4 2 _ rfl; rw [cof3] at z_; exact z_
    have g12 : DataW.trod enc Try.prog W 0 (fun _ => true) true n2 3 [c_3] = some y8 := by have z_ : DataW.trod enc Try.prog W 0 (fun _ => true) true n2 3 (([c_0, c_1, c_2, c_3].drop 3).take (Try.prog.cellsOf 3)) = [y5, y6, y7, y8][3]? := hg4 3 _ rfl; rw [cof3] at z_; exact z_
    obtain ⟨a0_0, e13, _, w0_0⟩ := DataW.trod_int Try.underlying3 g9
    obtain rfl : c_0 = _ := by simpa using e13
    obtain ⟨a0_1, e14, _, w0_1⟩ := DataW.trod_int Try.underlying3 g10
    obtain rfl : c_1 = _ := by simpa using e14
    obtain ⟨a0_2, e15, _, w0_2⟩ := DataW.trod_int Try.underlying3 g11
    obtain rfl : c_2 = _ := by simpa using e15
    obtain ⟨a0_3, e16, _, w0_3⟩ := DataW.trod_int Try.underlying3 g12
    obtain rfl : c_3 = _ := by simpa using e16
    exact ⟨_, _, _, _, rfl, w0_0, w0_1, w0_2, w0_3⟩
set_option maxRecDepth 100000 in
theorem lifted (os : Os) (started : os.Started) (H : Type) (enc : TypeId × Value → H) :
    ReturnsInHanded {} Try.checked os 3 .any (Rows.fnExactIsIslandSpec.pre6 enc Try.prog Try.f3 Rows.fnExactIsIslandRow.domain false) (Rows.fnExactIsIslandSpec.post enc Try.prog Try.f3 false true false false) := by
  refine returnsInHanded_of_change_sized (C := Try.checked) own started (by kernel_rfl) Try.func3
    (ChangeSpec.witness6 (enc := enc) (C := Try.checked) false ⟨#[], #[.agg #[.int .i64 0, .int .i64 0, .int .i64 0, .int .i64 0]], []⟩ 8 (by kernel_rfl) (by kernel_rfl) (by kernel_rfl) (by kernel_rfl)) ?_
  intro W base args ds gs before hval0 hW hcnd hsz0 _
  have hsz : (DataW.weightsEach Try.prog (Try.f3.params.toList ++ Rows.fnExactIsIslandSpec.plain.varTypes Try.prog) (ds ++ gs)).all (· ≤ reachBytes) = true := hsz0
  have hval : ∀ (j : Nat) t v, Try.f3.params[j]? = some t → args[j]? = some v → Value.okWide Try.prog W .any base t v := hval0
  have hW' := hW
  obtain ⟨p, q, hA0, hV, rfl, hfz, hnd⟩ := hW
  have hA : DataW.TrodAll enc Try.prog W 0 (fun _ => true) true Try.f3.params.toList args.toList ds p := hA0
  rw [Try.params3] at hA hval hsz
  obtain ⟨v0, vs0, d0, ds0, p0, q0, hargs, rfl, rfl, h0, r0⟩ := trodAll_cons hA
  obtain ⟨rfl, rfl, rfl⟩ := trodAll_nil r0
  obtain rfl : args = #[v0] := by cases args; simp_all
  obtain ⟨rfl, rfl⟩ := trodVars_none hV
  have k0 := h0
  have lt0 : ∀ x ∈ p0, x.block < W.heap.size := by obtain ⟨m, hm⟩ := k0; exact DataW.trod_lt m _ _ _ hm
  obtain ⟨a0_0, a0_1, a0_2, a0_3, rfl, w0_0, w0_1, w0_2, w0_3⟩ := open0 (hval 0 23 v0 rfl rfl) h0
  clear hA0 hval0 hsz0 hsz
  obtain ⟨kk, hk⟩ := Pure.FnExactIsIsland a0_0 a0_1 a0_2 a0_3 w0_0 w0_1 w0_2 w0_3
  refine (P.laws_FnExactIsIsland.calls kk a0_0 a0_1 a0_2 a0_3 true W  hk).mono fun e W' ⟨he, bel0⟩ => ?_
  have bel : Below W.heap.size W W' := bel0
  subst he
  exact ⟨_, rfl, _, _, _, [], _, [], hW', trodAll_mk1 (shut_bool Try.underlying4 _), (trodAll_cons_mk (Below.trod laidOut (by kernel_rfl) (of_decide_eq_true (by kernel_rfl)) k0 bel lt0) trodAll_mk0), rfl, bel.frame _, fun h => by cases h⟩
theorem over : Rows.fnExactIsIslandRow.holds Try.pinned (OpenSpec.ofChange Rows.fnExactIsIslandSpec) :=
  OpenClaim.holds_of_wide 3 Try.f3 rfl rfl rfl rfl rfl rfl rfl ⟨rfl, rfl, rfl, rfl, rfl⟩ rfl rfl rfl rfl rfl (by kernel_rfl) Try.func3 (by kernel_rfl)
    (of_decide_eq_true (by kernel_rfl)) (by unfold Func.isWrapper; first | (rw [if_pos (by decide +kernel)]; kernel_rfl) | (rw [if_neg (by decide +kernel)]; exact ⟨rfl, rfl⟩))
    (fun os started H enc _ => lifted os started H enc)
theorem proved : Rows.FnExactIsIslandSaid := over
#print axioms proved
end Go.Proofs.Ytdogdebhagediaa.fnExactIsIsland
namespace Go.Proofs.Ytdogdebhagediaa
/-- The row, under a short name, for the claim. -/
theorem fnExactIsIsland_holds : Rows.FnExactIsIslandSaid := fnExactIsIsland.proved
end Go.Proofs.Ytdogdebhagediaa
