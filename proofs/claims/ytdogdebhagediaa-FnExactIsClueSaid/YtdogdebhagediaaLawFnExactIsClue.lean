/- A part of this seat's proof, written by a program of this claim: Go functions as plain Lean functions, each with a proof that a call of the Go function answers as the Lean function says; and the rows of the laws. What is asked stands in each theorem. -/
import Derived.Test.YtdogdebhagediaaRows
import Derived.Test.YtdogdebhagediaaFLawsFnExactIsClue
import Derived.Test.YtdogdebhagediaaPureFnExactIsClue
import Derived.WalkKit
import Derived.ProofKit
import Derived.OpenShut
import Derived.ShutString
import Derived.ChangeOld
import Derived.Below
import Derived.SizedLaws
import Derived.Deep.Slices
import Derived.Deep.Fields
import Derived.ChangeSame
import Derived.Lib.SmallJoins
import Derived.Test.YtdogdebhagediaaWSized
namespace Go.Proofs.Ytdogdebhagediaa.fnExactIsClue
open Go.ChangeShapes Go.WideShapes Go.ChangeAt Go.RowKit Go.Deep
open Go.ChangeMaps (open_string shut_string)
open Go.Proofs.YtdogdebhagediaaW.PrintWords Go.Proofs.YtdogdebhagediaaW.PrintLast Go.Proofs.YtdogdebhagediaaW.PrintMore Go.Proofs.Ytdogdebhagediaa.P
set_option linter.unusedVariables false
set_option linter.unusedSimpArgs false
theorem own : ownKnob Try.prog.godebug = none := by kernel_rfl
theorem laidOut : laidOutB Try.prog = true := by kernel_rfl
theorem cof3 : Try.prog.cellsOf 3 = 1 := by kernel_rfl
theorem cof29 : Try.prog.cellsOf 29 = 3 := by kernel_rfl
set_option maxRecDepth 100000 in
theorem open1 {H : Type} {enc : TypeId × Value → H} {W : World} {base : Nat} {v : Value} {d : DataW H} {p : List MemPlace} (hv : Value.okWide Try.prog W .any base 29 v) (h : DataW.Trod enc Try.prog W 0 (fun _ => true) true 29 v d p) :
    ∃ (a1_0 : Int) (a1_1 : Int) (a1_2 : Int), v = .agg #[.int .i64 a1_0, .int .i64 a1_1, .int .i64 a1_2] ∧ ((Lit.int .i64 a1_0).wf = true) ∧ ((Lit.int .i64 a1_1).wf = true) ∧ ((Lit.int .i64 a1_2).wf = true) := by
  obtain ⟨cs, rfl, hsz⟩ := okWide_struct Try.underlying29 hv
  rw [cof29] at hsz
  obtain ⟨l⟩ := cs
  match l, hsz with
  | [c_0, c_1, c_2], _ =>
    obtain ⟨fuel, hf⟩ := h
    have hf : DataW.trod enc Try.prog W 0 (fun _ => true) true fuel 29 [c_0, c_1, c_2] = some (d, p) := hf
    obtain ⟨xs1, n2, _, _, _, hl3, hg4⟩ := DataW.trod_struct Try.underlying29 hf
    obtain ⟨y5, y6, y7, rfl⟩ : ∃ y5 y6 y7, xs1 = [y5, y6, y7] := by match xs1, hl3 with | [y5, y6, y7], _ => exact ⟨y5, y6, y7, rfl⟩
    have g8 : DataW.trod enc Try.prog W 0 (fun _ => true) true n2 3 [c_0] = some y5 := by have z_ : DataW.trod enc Try.prog W 0 (fun _ => true) true n2 3 (([c_0, c_1, c_2].drop 0).take (Try.prog.cellsOf 3)) = [y5, y6, y7][0]? := hg4 0 _ rfl; rw [cof3] at z_; exact z_
    have g9 : DataW.trod enc Try.prog W 0 (fun _ => true) true n2 3 [c_1] = some y6 := by have z_ : DataW.trod enc Try.prog W 0 (fun _ => true) true n2 3 (([c_0, c_1, c_2].drop 1).take (Try.prog.cellsOf 3)) = [y5, y6, y7][1]? := hg4 1 _ rfl; rw [cof3] at z_; exact z_
    have g10 : DataW.trod enc Try.prog W 0 (fun _ => true) true n2 3 [c_2] = some y7 := by have z_ : DataW.trod enc Try.prog W 0 (fun _ => true) true n2 3 (([c_0, c_1, c_2].drop 2).take (Try.prog.cellsOf 3)) = [y5, y6, y7][2]? := hg4 2 _ rfl; rw [cof3] at z_; exact z_
    obtain ⟨a1_0, e11, _, w1_0⟩ := DataW.trod_int Try.underlying3 g8
    obtain rfl : c_0 = _ := by simpa using e11
    obtain ⟨a1_1, e12, _, w1_1⟩ := DataW.trod_int Try.underlying3 g9
    obtain rfl : c_1 = _ := by simpa using e12
    obtain ⟨a1_2, e13, _, w1_2⟩ := DataW.trod_int Try.underlying3 g10
    obtain rfl : c_2 = _ := by simpa using e13
    exact ⟨_, _, _, rfl, w1_0, w1_1, w1_2⟩
set_option maxRecDepth 100000 in
theorem lifted (os : Os) (started : os.Started) (H : Type) (enc : TypeId × Value → H) :
    ReturnsInHanded {} Try.checked os 4 .any (Rows.fnExactIsClueSpec.pre6 enc Try.prog Try.f4 Rows.fnExactIsClueRow.domain false) (Rows.fnExactIsClueSpec.post enc Try.prog Try.f4 false true false false) := by
  refine returnsInHanded_of_change_sized (C := Try.checked) own started (by kernel_rfl) Try.func4
    (ChangeSpec.witness6 (enc := enc) (C := Try.checked) false ⟨#[], #[.int .i64 0, .agg #[.int .i64 0, .int .i64 0, .int .i64 0]], []⟩ 8 (by kernel_rfl) (by kernel_rfl) (by kernel_rfl) (by kernel_rfl)) ?_
  intro W base args ds gs before hval0 hW hcnd hsz0 _
  have hsz : (DataW.weightsEach Try.prog (Try.f4.params.toList ++ Rows.fnExactIsClueSpec.plain.varTypes Try.prog) (ds ++ gs)).all (· ≤ reachBytes) = true := hsz0
  have hval : ∀ (j : Nat) t v, Try.f4.params[j]? = some t → args[j]? = some v → Value.okWide Try.prog W .any base t v := hval0
  have hW' := hW
  obtain ⟨p, q, hA0, hV, rfl, hfz, hnd⟩ := hW
  have hA : DataW.TrodAll enc Try.prog W 0 (fun _ => true) true Try.f4.params.toList args.toList ds p := hA0
  rw [Try.params4] at hA hval hsz
  obtain ⟨v0, vs0, d0, ds0, p0, q0, hargs, rfl, rfl, h0, r0⟩ := trodAll_cons hA
  obtain ⟨v1, vs1, d1, ds1, p1, q1, rfl, rfl, rfl, h1, r1⟩ := trodAll_cons r0
  obtain ⟨rfl, rfl, rfl⟩ := trodAll_nil r1
  obtain rfl : args = #[v0, v1] := by cases args; simp_all
  obtain ⟨rfl, rfl⟩ := trodVars_none hV
  obtain ⟨a0, rfl, rfl, rfl, w0⟩ := open_int Try.underlying3 (hval 0 3 v0 rfl rfl) h0
  have k1 := h1
  have lt1 : ∀ x ∈ p1, x.block < W.heap.size := by obtain ⟨m, hm⟩ := k1; exact DataW.trod_lt m _ _ _ hm
  obtain ⟨a1_0, a1_1, a1_2, rfl, w1_0, w1_1, w1_2⟩ := open1 (hval 1 29 v1 rfl rfl) h1
  clear hA0 hval0 hsz0 hsz
  obtain ⟨kk, hk⟩ := Pure.FnExactIsClue a0 a1_0 a1_1 a1_2 w0 w1_0 w1_1 w1_2
  refine (P.laws_FnExactIsClue.calls kk a0 a1_0 a1_1 a1_2 true W  hk).mono fun e W' ⟨he, bel0⟩ => ?_
  have bel : Below W.heap.size W W' := bel0
  subst he
  exact ⟨_, rfl, _, _, _, [], _, [], hW', trodAll_mk1 (shut_bool Try.underlying4 _), (trodAll_cons_mk (shut_int Try.underlying3 w0) (trodAll_cons_mk (Below.trod laidOut (by kernel_rfl) (of_decide_eq_true (by kernel_rfl)) k1 bel lt1) trodAll_mk0)), rfl, bel.frame _, fun h => by cases h⟩
theorem over : Rows.fnExactIsClueRow.holds Try.pinned (OpenSpec.ofChange Rows.fnExactIsClueSpec) :=
  OpenClaim.holds_of_wide 4 Try.f4 rfl rfl rfl rfl rfl rfl rfl ⟨rfl, rfl, rfl, rfl, rfl⟩ rfl rfl rfl rfl rfl (by kernel_rfl) Try.func4 (by kernel_rfl)
    (of_decide_eq_true (by kernel_rfl)) (by unfold Func.isWrapper; first | (rw [if_pos (by decide +kernel)]; kernel_rfl) | (rw [if_neg (by decide +kernel)]; exact ⟨rfl, rfl⟩))
    (fun os started H enc _ => lifted os started H enc)
theorem proved : Rows.FnExactIsClueSaid := over
#print axioms proved
end Go.Proofs.Ytdogdebhagediaa.fnExactIsClue
namespace Go.Proofs.Ytdogdebhagediaa
/-- The row, under a short name, for the claim. -/
theorem fnExactIsClue_holds : Rows.FnExactIsClueSaid := fnExactIsClue.proved
end Go.Proofs.Ytdogdebhagediaa
