/- The law FnExactWholeIslands is proved: a call of it returns true and leaves its arguments as they were; and what this needs. Every input that the given rows speak of; nothing else is asked. -/
import Derived.Test.YticjelkofmjnjaaMFnExactWholeIslands0
import Derived.Test.YticjelkofmjnjaaRows
import Derived.WalkKit
import Derived.ProofKit
import Derived.OpenShut
import Derived.ShutString
import Derived.ChangeOld
import Derived.Below
import Derived.SizedLaws
namespace Go.Proofs.Yticjelkofmjnjaa.P
open Go.RowKit Go.Proofs.YticjelkofmjnjaaW.PrintWords Go.Proofs.YticjelkofmjnjaaW.PrintLast Go.Proofs.YticjelkofmjnjaaW.PrintMore
attribute [local go_sem] max2_int min2_int max_two min_two max_three min_three max_four min_four   -- for this text's walks alone
set_option linter.unusedVariables false
set_option linter.unusedSimpArgs false

/-! ### laws_FnExactWholeIslands: function 3 -/
mutual
def laws_FnExactWholeIslands.j0 : Nat → Int → Int → List (List Int) → Bool → List (List Int) → Bool → Option (Bool)
 | 0, _, _, _, _, _, _ => none
 | k + 1, x0, x1, x5, x6, x7, x33 => if x33 = true then (some false) else ((laws_markIntSS.f k x7 1).bind fun bt191 => ((laws_heldIntSS.f k bt191.2 1).bind fun t193 => (if t193 < 0 then (some false) else (if t193 = bt191.1 then ((impl_WholeIslands.f k x0 x1).bind fun bt194 => ((laws_eqIntSS.f k bt194.1 x5).bind fun t198 => (if t198 = true then (laws_FnExactWholeIslands.j1 k bt191.2 bt191.1 (bt194.2 != x6)) else (laws_FnExactWholeIslands.j1 k bt191.2 bt191.1 true)))) else (some false)))))
def laws_FnExactWholeIslands.j1 : Nat → List (List Int) → Int → Bool → Option (Bool)
 | 0, _, _, _ => none
 | k + 1, x7, x9, x59 => if x59 = true then (some false) else ((laws_heldIntSS.f k x7 1).bind fun t199 => (if t199 < 0 then (some false) else (if t199 = x9 then (some true) else (some false))))
end
def laws_FnExactWholeIslands.f (k : Nat) (a0 : Int) (a1 : Int) : Option (Bool) := (spec_WholeIslands.f k a0 a1).bind fun bt182 => ((impl_WholeIslands.f k a0 a1).bind fun bt186 => ((laws_eqIntSS.f k bt186.1 bt182.1).bind fun t190 => (if t190 = true then (laws_FnExactWholeIslands.j0 k a0 a1 bt182.1 bt182.2 bt186.1 (bt186.2 != bt182.2)) else (laws_FnExactWholeIslands.j0 k a0 a1 bt182.1 bt182.2 bt186.1 true))))
theorem laws_FnExactWholeIslands.j0_true : ∀ k x0 x1 x2 x3 x4 r, laws_FnExactWholeIslands.j0 k x0 x1 x2 x3 x4 true = some r → r = false := by
 intro k x0 x1 x2 x3 x4 r h
 cases k with
 | zero => simp [laws_FnExactWholeIslands.j0] at h
 | succ k => simp only [laws_FnExactWholeIslands.j0, if_true] at h; exact (Option.some.inj h).symm
theorem laws_FnExactWholeIslands.j1_true : ∀ k x0 x1 r, laws_FnExactWholeIslands.j1 k x0 x1 true = some r → r = false := by
 intro k x0 x1 r h
 cases k with
 | zero => simp [laws_FnExactWholeIslands.j1] at h
 | succ k => simp only [laws_FnExactWholeIslands.j1, if_true] at h; exact (Option.some.inj h).symm
set_option maxHeartbeats 8000000 in
set_option maxRecDepth 100000 in
theorem laws_FnExactWholeIslands.calls (k : Nat) (a0 : Int) (a1 : Int) (r : Bool) (w : World) (h : laws_FnExactWholeIslands.f k a0 a1 = some r) (hr_ : r = true) :
  Calls Try.prog 3 #[.int .i64 a0, .int .i64 a1] w fun e w' => e = .returned (.bool r) ∧ Below w.heap.size w w' := by
 have HR_ := Aside0.mk hr_
 clear hr_
 have HB := Aside0.mk (Below.refl w.heap.size w)
 have H : ((spec_WholeIslands.f k a0 a1).bind fun bt182 => ((impl_WholeIslands.f k a0 a1).bind fun bt186 => ((laws_eqIntSS.f k bt186.1 bt182.1).bind fun t190 => (if t190 = true then (laws_FnExactWholeIslands.j0 k a0 a1 bt182.1 bt182.2 bt186.1 (bt186.2 != bt182.2)) else (laws_FnExactWholeIslands.j0 k a0 a1 bt182.1 bt182.2 bt186.1 true))))) = some r := h
 clear h; replace H := Option.bind_eq_some_iff.mp H
 obtain ⟨⟨t182, t183⟩, A30, H⟩ := H
 replace H : ((impl_WholeIslands.f k a0 a1).bind fun bt186 => ((laws_eqIntSS.f k bt186.1 t182).bind fun t190 => (if t190 = true then (laws_FnExactWholeIslands.j0 k a0 a1 t182 t183 bt186.1 (bt186.2 != t183)) else (laws_FnExactWholeIslands.j0 k a0 a1 t182 t183 bt186.1 true)))) = some r := H
 have A3 := Aside0.mk A30
 clear A30; replace H := Option.bind_eq_some_iff.mp H
 obtain ⟨⟨t186, t187⟩, A40, H⟩ := H
 replace H : ((laws_eqIntSS.f k t186 t182).bind fun t190 => (if t190 = true then (laws_FnExactWholeIslands.j0 k a0 a1 t182 t183 t186 (t187 != t183)) else (laws_FnExactWholeIslands.j0 k a0 a1 t182 t183 t186 true))) = some r := H
 have A4 := Aside0.mk A40
 clear A40
 have HC5 := Aside0.mk H
 clear H
 go_enter Try.func3, Try.ntmps3
 go_upto_region 3 with (first | ((with_reducible refine gate_callee (f := 4) rfl ?_); refine goesL_ (some 16) rfl rfl Try.func4 (by kernel_rfl) rfl #[.int .i64 a0, .int .i64 a1] rfl (by (try simp only [List.map_toArray, List.map_cons, List.map_nil]); first | done | rfl | (simp only [List.length_drop, List.length_take]; rfl)) ?_; (with_reducible refine (spec_WholeIslands.calls k a0 a1 t182 t183 _ A3.out).mono ?_); rintro e w6 ⟨v184, rfl, ho0, hb⟩; refine ⟨_, rfl, ?_⟩; have n0_ := Aside0.mk (Kd.S_lower ho0 (below_size (by repeat (first | (with_reducible first | exact HB.out | apply below_alloc | apply pw_below_drewN | apply below_drew1) | exact HB.out)))); have n1_ := Aside0.mk (below_step (by repeat (first | (with_reducible first | exact HB.out | apply below_alloc | apply pw_below_drewN | apply below_drew1) | exact HB.out)) hb); clear HB; have HO185 := n0_; have HB := n1_; clear n0_ n1_; (try clear hb); (try clear hb2); (try clear hk); (try clear hi); (try clear ho0)) | ((with_reducible refine gate_callee (f := 5) rfl ?_); refine goesL_ (some 22) rfl rfl Try.func5 (by kernel_rfl) rfl #[.int .i64 a0, .int .i64 a1] rfl (by (try simp only [List.map_toArray, List.map_cons, List.map_nil]); first | done | rfl | (simp only [List.length_drop, List.length_take]; rfl)) ?_; (with_reducible refine (impl_WholeIslands.calls k a0 a1 t186 t187 _ A4.out).mono ?_); rintro e w7 ⟨v188, rfl, ho0, hb⟩; refine ⟨_, rfl, ?_⟩; obtain ⟨mss, hp0, hp1⟩ := SS_part (by (with_reducible repeat (first | apply Kd.S_alloc | apply Kd.S_drewN | apply Kd.S_drew)); exact HO185.out) ho0 hb (below_size (by repeat (first | (with_reducible first | exact HB.out | apply below_alloc | apply pw_below_drewN | apply below_drew1) | exact HB.out))); have n0_ := Aside0.mk hp0; have n1_ := Aside0.mk hp1; clear hp0 hp1; have n2_ := Aside0.mk (below_step (by repeat (first | (with_reducible first | exact HB.out | apply below_alloc | apply pw_below_drewN | apply below_drew1) | exact HB.out)) hb); clear HO185; clear HB; have HO185 := n0_; have HO189 := n1_; have HB := n2_; clear n0_ n1_ n2_; (try clear hb); (try clear hb2); (try clear hk); (try clear hi); (try clear ho0)))
 (try simp only [Act.put, List.setIfInBounds_toArray, List.set_cons_zero, List.set_cons_succ])
 go_cut [33] (fun v33 wc => ∃ (kq : Nat) (x33_4 : Bool), v33 = .bool x33_4 ∧ Aside0 (laws_FnExactWholeIslands.j0 kq a0 a1 t182 t183 t186 x33_4 = some r) ∧ Aside0 (kq ≤ k) ∧ Aside0 (Kd.S (Kd.slice 3 (Kd.int .i64)) 34 wc w.heap.size (fun k_ => k_ < mss) v184 t182) ∧ Aside0 (Kd.S (Kd.slice 3 (Kd.int .i64)) 34 wc w.heap.size (fun k_ => mss ≤ k_) v188 t186) ∧ Aside0 (Below w.heap.size w wc))
 case first =>
  have H := HC5.out; clear HC5; replace H := Option.bind_eq_some_iff.mp H
  obtain ⟨t190, A80, H⟩ := H
  replace H : (if t190 = true then (laws_FnExactWholeIslands.j0 k a0 a1 t182 t183 t186 (t187 != t183)) else (laws_FnExactWholeIslands.j0 k a0 a1 t182 t183 t186 true)) = some r := H
  have A8 := Aside0.mk A80
  clear A80
  by_cases c9 : t190 = true
  ·subst c9
   have H1 : (laws_FnExactWholeIslands.j0 k a0 a1 t182 t183 t186 (t187 != t183)) = some r := by rw [if_pos rfl] at H; exact H
   clear H; have H := H1; clear H1; have H' := Aside0.mk H; clear H
   obtain ⟨Ao10, co10, eo10⟩ := Kd.S_slice HO189.out
   subst eo10
   obtain ⟨Ao11, co11, eo11⟩ := Kd.S_slice HO185.out
   subst eo11
   go_wp2_with (first | ((with_reducible refine gate_callee (f := 6) rfl ?_); refine goesL_ (some 27) rfl rfl Try.func6 (by kernel_rfl) rfl #[.slice Ao10 t186.length co10, .slice Ao11 t182.length co11] rfl (by (try simp only [List.map_toArray, List.map_cons, List.map_nil]); first | done | rfl | (simp only [List.length_drop, List.length_take]; rfl)) ?_; (with_reducible refine (laws_eqIntSS.calls k _ _ t186 _ _ t182 true _ ?side1 ?side2 ?side3 ?side4 A8.out).mono ?_); (case side1 => repeat (first | exact (Kd.S_reads' HO189.out).2.2 | (with_reducible refine Kd.C_alloc ?_ _) | (with_reducible refine Kd.C_drewN ?_ _) | (with_reducible refine Kd.C_drew ?_))); (case side2 => exact (Kd.S_reads' HO189.out).2.1); (case side3 => repeat (first | exact (Kd.S_reads' HO185.out).2.2 | (with_reducible refine Kd.C_alloc ?_ _) | (with_reducible refine Kd.C_drewN ?_ _) | (with_reducible refine Kd.C_drew ?_))); (case side4 => exact (Kd.S_reads' HO185.out).2.1); rintro e w' ⟨rfl, ⟨nd, rfl⟩⟩; refine ⟨_, rfl, ?_⟩))
   go_meet
   case rel => exact ⟨_, ((t187 != t183)), (by first | rfl | (simp; done) | (simp [*]; done)), H', ⟨by first | omega | exact Nat.le_refl _⟩, ⟨by (with_reducible repeat (first | apply Kd.S_alloc | apply Kd.S_drewN | apply Kd.S_drew)); exact HO185.out⟩, ⟨by (with_reducible repeat (first | apply Kd.S_alloc | apply Kd.S_drewN | apply Kd.S_drew)); exact HO189.out⟩, ⟨by repeat (first | (with_reducible first | exact HB.out | apply below_alloc | apply pw_below_drewN | apply below_drew1) | exact HB.out)⟩⟩
  ·replace c9 := Bool.eq_false_iff.mpr c9
   subst c9
   have H1 : (laws_FnExactWholeIslands.j0 k a0 a1 t182 t183 t186 true) = some r := by rw [if_neg (show ¬ (false = true) by decide)] at H; exact H
   clear H; have H := H1; clear H1
   exact absurd (HR_.out.symm.trans (laws_FnExactWholeIslands.j0_true _ _ _ _ _ _ _ H)) (by decide)
 case rest =>
  clear HC5; (try clear p2); (try clear c3); (try clear c4); (try clear c5); (try clear c6); (try clear c9)
  obtain ⟨kq, x33_4, rfl, HA, HJ4, HO_5, HO_7, HB⟩ := hcut
  cases kq with
  | zero => exact absurd HA.out (by simp [laws_FnExactWholeIslands.j0])
  | succ kj4 =>
   have H := HA.out; clear HA
   simp only [laws_FnExactWholeIslands.j0] at H
   by_cases c14 : x33_4 = true
   ·subst c14
    have H1 : (some false) = some r := by rw [if_pos rfl] at H; exact H
    clear H; have H := H1; clear H1
    obtain rfl := Option.some.inj H
    exact absurd HR_.out (by decide)
   ·replace c14 := Bool.eq_false_iff.mpr c14
    subst c14
    have H1 : ((laws_markIntSS.f kj4 t186 1).bind fun bt191 => ((laws_heldIntSS.f kj4 bt191.2 1).bind fun t193 => (if t193 < 0 then (some false) else (if t193 = bt191.1 then ((impl_WholeIslands.f kj4 a0 a1).bind fun bt194 => ((laws_eqIntSS.f kj4 bt194.1 t182).bind fun t198 => (if t198 = true then (laws_FnExactWholeIslands.j1 kj4 bt191.2 bt191.1 (bt194.2 != t183)) else (laws_FnExactWholeIslands.j1 kj4 bt191.2 bt191.1 true)))) else (some false))))) = some r := by rw [if_neg (show ¬ (false = true) by decide)] at H; exact H
    clear H; have H := H1; clear H1; replace H := Option.bind_eq_some_iff.mp H
    obtain ⟨⟨t191, t192⟩, A150, H⟩ := H
    replace H : ((laws_heldIntSS.f kj4 t192 1).bind fun t193 => (if t193 < 0 then (some false) else (if t193 = t191 then ((impl_WholeIslands.f kj4 a0 a1).bind fun bt194 => ((laws_eqIntSS.f kj4 bt194.1 t182).bind fun t198 => (if t198 = true then (laws_FnExactWholeIslands.j1 kj4 t192 t191 (bt194.2 != t183)) else (laws_FnExactWholeIslands.j1 kj4 t192 t191 true)))) else (some false)))) = some r := H
    have A15 := Aside0.mk A150
    clear A150; replace H := Option.bind_eq_some_iff.mp H
    obtain ⟨t193, A160, H⟩ := H
    replace H : (if t193 < 0 then (some false) else (if t193 = t191 then ((impl_WholeIslands.f kj4 a0 a1).bind fun bt194 => ((laws_eqIntSS.f kj4 bt194.1 t182).bind fun t198 => (if t198 = true then (laws_FnExactWholeIslands.j1 kj4 t192 t191 (bt194.2 != t183)) else (laws_FnExactWholeIslands.j1 kj4 t192 t191 true)))) else (some false))) = some r := H
    have A16 := Aside0.mk A160
    clear A160
    by_cases c17 : t193 < 0
    ·rw [if_pos c17] at H
     have c17b0 : decide (t193 < 0) = true := decide_eq_true c17; clear c17
     obtain rfl := Option.some.inj H
     exact absurd HR_.out (by decide)
    ·rw [if_neg c17] at H
     have c17b0 : decide (t193 < 0) = false := decide_eq_false c17; clear c17
     by_cases c18 : t193 = t191
     ·rw [if_pos c18] at H
      have c18b0 : (t193 == t191) = true := beq_iff_eq.mpr c18
      have c18b1 : (t193 != t191) = false := bne_eq_false_iff_eq.mpr c18
      clear c18; replace H := Option.bind_eq_some_iff.mp H
      obtain ⟨⟨t194, t195⟩, A190, H⟩ := H
      replace H : ((laws_eqIntSS.f kj4 t194 t182).bind fun t198 => (if t198 = true then (laws_FnExactWholeIslands.j1 kj4 t192 t191 (t195 != t183)) else (laws_FnExactWholeIslands.j1 kj4 t192 t191 true))) = some r := H
      have A19 := Aside0.mk A190
      clear A190
      have HC20 := Aside0.mk H
      clear H
      obtain ⟨Ao21, co21, eo21⟩ := Kd.S_slice HO_7.out
      subst eo21
      go_upto_region 14 with (first | ((with_reducible refine gate_callee (f := 7) rfl ?_); refine goesL_ (some 36) rfl rfl Try.func7 (by kernel_rfl) rfl #[.slice Ao21 t186.length co21, .int .i64 1] rfl (by (try simp only [List.map_toArray, List.map_cons, List.map_nil]); first | done | rfl | (simp only [List.length_drop, List.length_take]; rfl)) ?_; (with_reducible refine (laws_markIntSS.calls kj4 (fun k_ => mss ≤ k_) (.slice Ao21 t186.length co21) t186 1 t191 t192 w _ ?side1 ?side2 A15.out).mono ?_); (case side1 => repeat (first | (with_reducible first | exact HB.out | apply below_alloc | apply pw_below_drewN | apply below_drew1) | exact HB.out)); (case side2 => exact HO_7.out); rintro e w22 ⟨rfl, hy0, hb, hkp⟩; refine ⟨_, rfl, ?_⟩; have n0_ := Aside0.mk (Kd.S_kept HO_5.out hkp (fun k_ hk_ hs_ => Nat.not_le.2 hk_ hs_)); have n1_ := Aside0.mk (Kd.S_mono (ok' := fun _ => True) hy0 (fun _ _ => trivial)); have n2_ := Aside0.mk (hb); clear HO_5; clear HO_7; clear HB; have HO_5 := n0_; have HO_7 := n1_; have HB := n2_; clear n0_ n1_ n2_; (try clear hb); (try clear hkp); (try clear hy0)) | ((with_reducible refine gate_callee (f := 8) rfl ?_); refine goesL_ (some 39) rfl rfl Try.func8 (by kernel_rfl) rfl #[.slice Ao21 t192.length co21, .int .i64 1] rfl (by (try simp only [List.map_toArray, List.map_cons, List.map_nil]); first | done | (rw [show t192.length = t186.length from (Kd.S_reads' HO_7.out).1.symm] <;> rfl) | rfl | (simp only [List.length_drop, List.length_take]; rfl)) ?_; (with_reducible refine (laws_heldIntSS.calls kj4 _ _ t192 1 t193 _ ?side1 ?side2 A16.out).mono ?_); (case side1 => repeat (first | exact (Kd.S_reads' HO_7.out).2.2 | (with_reducible refine Kd.C_alloc ?_ _) | (with_reducible refine Kd.C_drewN ?_ _) | (with_reducible refine Kd.C_drew ?_))); (case side2 => rw [show t192.length = t186.length from (Kd.S_reads' HO_7.out).1.symm]; exact (Kd.S_reads' HO_7.out).2.1); rintro e w' ⟨rfl, ⟨nd, rfl⟩⟩; refine ⟨_, rfl, ?_⟩) | ((with_reducible refine gate_callee (f := 5) rfl ?_); refine goesL_ (some 48) rfl rfl Try.func5 (by kernel_rfl) rfl #[.int .i64 a0, .int .i64 a1] rfl (by (try simp only [List.map_toArray, List.map_cons, List.map_nil]); first | done | rfl | (simp only [List.length_drop, List.length_take]; rfl)) ?_; (with_reducible refine (impl_WholeIslands.calls kj4 a0 a1 t194 t195 _ A19.out).mono ?_); rintro e w23 ⟨v196, rfl, ho0, hb⟩; refine ⟨_, rfl, ?_⟩; have n0_ := Aside0.mk (Kd.S_elder' (by (with_reducible repeat (first | apply Kd.S_alloc | apply Kd.S_drewN | apply Kd.S_drew)); exact HO_5.out) (Kd.S_base ho0) hb); have n1_ := Aside0.mk (Kd.S_elder' (by (with_reducible repeat (first | apply Kd.S_alloc | apply Kd.S_drewN | apply Kd.S_drew)); exact HO_7.out) (Kd.S_base ho0) hb); have n2_ := Aside0.mk (Kd.S_lower (Kd.S_new' (Kd.S_new' ho0 (Kd.S_lt (by (with_reducible repeat (first | apply Kd.S_alloc | apply Kd.S_drewN | apply Kd.S_drew)); exact HO_5.out))) (Kd.S_lt (by (with_reducible repeat (first | apply Kd.S_alloc | apply Kd.S_drewN | apply Kd.S_drew)); exact HO_7.out))) (below_size (by repeat (first | (with_reducible first | exact HB.out | apply below_alloc | apply pw_below_drewN | apply below_drew1) | exact HB.out)))); have n3_ := Aside0.mk (below_step (by repeat (first | (with_reducible first | exact HB.out | apply below_alloc | apply pw_below_drewN | apply below_drew1) | exact HB.out)) hb); clear HO_5; clear HO_7; clear HB; have HO_5 := n0_; have HO_7 := n1_; have HO197 := n2_; have HB := n3_; clear n0_ n1_ n2_ n3_; (try clear hb); (try clear hb2); (try clear hk); (try clear hi); (try clear ho0)))
      (try simp only [Act.put, List.setIfInBounds_toArray, List.set_cons_zero, List.set_cons_succ])
      go_cut [59] (fun v59 wc => ∃ (kq : Nat) (x59_19 : Bool), v59 = .bool x59_19 ∧ Aside0 (laws_FnExactWholeIslands.j1 kq t192 t191 x59_19 = some r) ∧ Aside0 (kq ≤ kj4) ∧ Aside0 (Kd.S (Kd.slice 3 (Kd.int .i64)) 34 wc w.heap.size (fun _ => True) (.slice Ao21 t186.length co21) t192) ∧ Aside0 (Below w.heap.size w wc))
      case first =>
       have H := HC20.out; clear HC20; replace H := Option.bind_eq_some_iff.mp H
       obtain ⟨t198, A240, H⟩ := H
       replace H : (if t198 = true then (laws_FnExactWholeIslands.j1 kj4 t192 t191 (t195 != t183)) else (laws_FnExactWholeIslands.j1 kj4 t192 t191 true)) = some r := H
       have A24 := Aside0.mk A240
       clear A240
       by_cases c25 : t198 = true
       ·subst c25
        have H1 : (laws_FnExactWholeIslands.j1 kj4 t192 t191 (t195 != t183)) = some r := by rw [if_pos rfl] at H; exact H
        clear H; have H := H1; clear H1; have H' := Aside0.mk H; clear H
        obtain ⟨Ao26, co26, eo26⟩ := Kd.S_slice HO197.out
        subst eo26
        obtain ⟨Ao27, co27, eo27⟩ := Kd.S_slice HO_5.out
        subst eo27
        go_wp2_with (first | ((with_reducible refine gate_callee (f := 6) rfl ?_); refine goesL_ (some 53) rfl rfl Try.func6 (by kernel_rfl) rfl #[.slice Ao26 t194.length co26, .slice Ao27 t182.length co27] rfl (by (try simp only [List.map_toArray, List.map_cons, List.map_nil]); first | done | rfl | (simp only [List.length_drop, List.length_take]; rfl)) ?_; (with_reducible refine (laws_eqIntSS.calls kj4 _ _ t194 _ _ t182 true _ ?side1 ?side2 ?side3 ?side4 A24.out).mono ?_); (case side1 => repeat (first | exact (Kd.S_reads' HO197.out).2.2 | (with_reducible refine Kd.C_alloc ?_ _) | (with_reducible refine Kd.C_drewN ?_ _) | (with_reducible refine Kd.C_drew ?_))); (case side2 => exact (Kd.S_reads' HO197.out).2.1); (case side3 => repeat (first | exact (Kd.S_reads' HO_5.out).2.2 | (with_reducible refine Kd.C_alloc ?_ _) | (with_reducible refine Kd.C_drewN ?_ _) | (with_reducible refine Kd.C_drew ?_))); (case side4 => exact (Kd.S_reads' HO_5.out).2.1); rintro e w' ⟨rfl, ⟨nd, rfl⟩⟩; refine ⟨_, rfl, ?_⟩))
        go_meet
        case rel => exact ⟨_, ((t195 != t183)), (by first | rfl | (simp; done) | (simp [*]; done)), H', ⟨by have := HJ4.out; first | omega | exact Nat.le_refl _⟩, ⟨by (with_reducible repeat (first | apply Kd.S_alloc | apply Kd.S_drewN | apply Kd.S_drew)); exact Kd.S_mono HO_7.out (fun _ hk => trivial)⟩, ⟨by repeat (first | (with_reducible first | exact HB.out | apply below_alloc | apply pw_below_drewN | apply below_drew1) | exact HB.out)⟩⟩
       ·replace c25 := Bool.eq_false_iff.mpr c25
        subst c25
        have H1 : (laws_FnExactWholeIslands.j1 kj4 t192 t191 true) = some r := by rw [if_neg (show ¬ (false = true) by decide)] at H; exact H
        clear H; have H := H1; clear H1
        exact absurd (HR_.out.symm.trans (laws_FnExactWholeIslands.j1_true _ _ _ _ H)) (by decide)
      case rest =>
       clear HC20; (try clear c1); (try clear c2); (try clear p2); (try clear c3); (try clear c4); (try clear c5); (try clear c6); (try clear c7); (try clear c8); (try clear c9); (try clear c14); (try clear c17); (try clear c17b0); (try clear c18); (try clear c18b0); (try clear c18b1); (try clear c25); (try clear p2)
       obtain ⟨kq, x59_19, rfl, HA, HJ19, HO_7, HB⟩ := hcut
       have hl7_19 := (Kd.S_reads' HO_7.out).1
       rw [hl7_19] at HO_7
       (try simp only [hl7_19])
       cases kq with
       | zero => exact absurd HA.out (by simp [laws_FnExactWholeIslands.j1])
       | succ kj19 =>
        have H := HA.out; clear HA
        simp only [laws_FnExactWholeIslands.j1] at H
        by_cases c30 : x59_19 = true
        ·subst c30
         have H1 : (some false) = some r := by rw [if_pos rfl] at H; exact H
         clear H; have H := H1; clear H1
         obtain rfl := Option.some.inj H
         exact absurd HR_.out (by decide)
        ·replace c30 := Bool.eq_false_iff.mpr c30
         subst c30
         have H1 : ((laws_heldIntSS.f kj19 t192 1).bind fun t199 => (if t199 < 0 then (some false) else (if t199 = t191 then (some true) else (some false)))) = some r := by rw [if_neg (show ¬ (false = true) by decide)] at H; exact H
         clear H; have H := H1; clear H1; replace H := Option.bind_eq_some_iff.mp H
         obtain ⟨t199, A310, H⟩ := H
         replace H : (if t199 < 0 then (some false) else (if t199 = t191 then (some true) else (some false))) = some r := H
         have A31 := Aside0.mk A310
         clear A310
         by_cases c32 : t199 < 0
         ·rw [if_pos c32] at H
          have c32b0 : decide (t199 < 0) = true := decide_eq_true c32; clear c32
          obtain rfl := Option.some.inj H
          exact absurd HR_.out (by decide)
         ·rw [if_neg c32] at H
          have c32b0 : decide (t199 < 0) = false := decide_eq_false c32; clear c32
          by_cases c33 : t199 = t191
          ·rw [if_pos c33] at H
           have c33b0 : (t199 == t191) = true := beq_iff_eq.mpr c33
           have c33b1 : (t199 != t191) = false := bne_eq_false_iff_eq.mpr c33
           clear c33
           obtain rfl := Option.some.inj H
           go_wp2_with (first | ((with_reducible refine gate_callee (f := 8) rfl ?_); refine goesL_ (some 62) rfl rfl Try.func8 (by kernel_rfl) rfl #[.slice Ao21 t192.length co21, .int .i64 1] rfl (by (try simp only [List.map_toArray, List.map_cons, List.map_nil]); first | done | rfl | (simp only [List.length_drop, List.length_take]; rfl)) ?_; (with_reducible refine (laws_heldIntSS.calls kj19 _ _ t192 1 t199 _ ?side1 ?side2 A31.out).mono ?_); (case side1 => repeat (first | exact (Kd.S_reads' HO_7.out).2.2 | (with_reducible refine Kd.C_alloc ?_ _) | (with_reducible refine Kd.C_drewN ?_ _) | (with_reducible refine Kd.C_drew ?_))); (case side2 => exact (Kd.S_reads' HO_7.out).2.1); rintro e w' ⟨rfl, ⟨nd, rfl⟩⟩; refine ⟨_, rfl, ?_⟩))
           go_ret
           exact ⟨by first | rfl | (simp [errW_none, errW_some] <;> rfl) | (simp [*, errW_none, errW_some] <;> rfl), by repeat (first | (with_reducible first | exact HB.out | apply below_alloc | apply pw_below_drewN | apply below_drew1) | exact HB.out)⟩
          ·rw [if_neg c33] at H
           have c33b0 : (t199 == t191) = false := beq_eq_false_iff_ne.mpr c33
           have c33b1 : (t199 != t191) = true := bne_iff_ne.mpr c33
           obtain rfl := Option.some.inj H
           exact absurd HR_.out (by decide)
     ·rw [if_neg c18] at H
      have c18b0 : (t193 == t191) = false := beq_eq_false_iff_ne.mpr c18
      have c18b1 : (t193 != t191) = true := bne_iff_ne.mpr c18
      obtain rfl := Option.some.inj H
      exact absurd HR_.out (by decide)

/-- THE ONE PURE STATEMENT of laws_FnExactWholeIslands: yours. -/
def laws_FnExactWholeIslands.Pure : Prop := ∀ (a0 : Int) (a1 : Int), (Lit.int .i64 a0).wf = true → (Lit.int .i64 a1).wf = true → ∃ k, laws_FnExactWholeIslands.f k a0 a1 = some true
theorem laws_FnExactWholeIslands.walk (P : laws_FnExactWholeIslands.Pure) (a0 : Int) (a1 : Int) (w : World) (w0 : (Lit.int .i64 a0).wf = true) (w1 : (Lit.int .i64 a1).wf = true) :
  Calls Try.prog 3 #[.int .i64 a0, .int .i64 a1] w fun e w' => e = .returned (.bool true) ∧ Below w.heap.size w w' := by
 obtain ⟨k, h⟩ := P a0 a1 w0 w1
 refine (laws_FnExactWholeIslands.calls k a0 a1 true w h rfl).mono ?_
 rintro e w' ⟨rfl, hd⟩
 exact ⟨rfl, hd⟩

end Go.Proofs.Yticjelkofmjnjaa.P

namespace Go.Proofs.Yticjelkofmjnjaa.P
open Go.RowKit Go.Proofs.YticjelkofmjnjaaW.PrintWords Go.Proofs.YticjelkofmjnjaaW.PrintLast Go.Proofs.YticjelkofmjnjaaW.PrintMore
set_option linter.unusedVariables false
set_option linter.unusedSimpArgs false
theorem Ev.succ {α : Type} {g : Nat → Option α} {r : α} (h : Ev (fun k => g (k + 1)) r) : Ev g r := Ev.step (fun _ => rfl) h
theorem Ev.ite {α : Type} {c : Prop} [Decidable c] {g f : Nat → Option α} {r s : α} (h1 : c → Ev g r) (h2 : ¬ c → Ev f s) : Ev (fun k => if c then g k else f k) (if c then r else s) := by
 by_cases h : c
 ·simp only [if_pos h]; exact h1 h
 ·simp only [if_neg h]; exact h2 h
theorem Ev.bindc {α β : Type} {g : Option α} {f : Nat → α → Option β} {a : α} {r : β} (h : g = some a) (k : Ev (fun n => f n a) r) : Ev (fun n => g.bind (f n)) r := by
 subst h; exact k
end Go.Proofs.Yticjelkofmjnjaa.P

namespace Go.Proofs.Yticjelkofmjnjaa.P
open Go.RowKit Go.Proofs.YticjelkofmjnjaaW.PrintWords Go.Proofs.YticjelkofmjnjaaW.PrintLast Go.Proofs.YticjelkofmjnjaaW.PrintMore
set_option linter.unusedVariables false
set_option linter.unusedSimpArgs false
theorem wid {x : Int} (h0 : -9223372036854775808 ≤ x) (h1 : x ≤ 9223372036854775807) : wrap64 x = x := by unfold wrap64; omega
/-- lo ≤ n ≤ hi, as a Bool. -/
def inr (lo hi n : Int) : Bool := decide (lo ≤ n) && decide (n ≤ hi)
theorem inr_iff {lo hi n : Int} : inr lo hi n = true ↔ lo ≤ n ∧ n ≤ hi := by unfold inr; simp
theorem mul_bd {a b A B : Int} (h0 : 0 ≤ a) (h1 : a ≤ A) (h2 : 0 ≤ b) (h3 : b ≤ B) : 0 ≤ a * b ∧ a * b ≤ A * B :=
 ⟨Int.mul_nonneg h0 h2, Int.mul_le_mul h1 h3 h2 (by omega)⟩
theorem ev_eq {α : Type} {g : Nat → Option α} {r s : α} (h : Ev g r) (e : r = s) : Ev g s := e ▸ h
/-- A row of rounds that doesn't hang on the rounds. -/
theorem Ev.const {α : Type} {g : Option α} {r : α} (h : g = some r) : Ev (fun _ => g) r := ⟨0, fun _ _ => h⟩
theorem all1 {p : Int → Bool} {a : Int} : [a].all p = p a := by simp
theorem rd_cons0 (x : Int) (l : List Int) : rd (x :: l) 0 = x := rfl
end Go.Proofs.Yticjelkofmjnjaa.P

namespace Go.Proofs.Yticjelkofmjnjaa.P
open Go.RowKit Go.Proofs.YticjelkofmjnjaaW.PrintWords Go.Proofs.YticjelkofmjnjaaW.PrintLast Go.Proofs.YticjelkofmjnjaaW.PrintMore
set_option linter.unusedVariables false
set_option linter.unusedSimpArgs false
theorem laws_eqIntS.ev_l (l : List Int) (hl : l.length ≤ 4611686018427387904) (d : Nat) : ∀ i : Nat, i + d = l.length → Ev (fun k => laws_eqIntS.l0 k l l (i : Int)) true := by
 induction d with
 | zero =>
  intro i hi
  refine Ev.succ ?_
  simp only [laws_eqIntS.l0, show ¬ ((i : Int) < (l.length : Int)) by omega, if_false]
  exact Ev.now _
 | succ d ih =>
  intro i hi
  refine Ev.succ ?_
  simp only [laws_eqIntS.l0, show ((i : Int) < (l.length : Int)) by omega, show (0 : Int) ≤ (i : Int) by omega, if_true]
  rw [wid (show -9223372036854775808 ≤ (i : Int) + 1 by omega) (by omega)]
  exact ih (i + 1) (by omega)
theorem laws_eqIntS.refl {l : List Int} (hl : l.length ≤ 4611686018427387904) : Ev (fun k => laws_eqIntS.f k l l) true := by
 unfold laws_eqIntS.f
 simp only [if_true]
 exact laws_eqIntS.ev_l l hl l.length 0 (by omega)
end Go.Proofs.Yticjelkofmjnjaa.P

namespace Go.Proofs.Yticjelkofmjnjaa.P
open Go.RowKit Go.Proofs.YticjelkofmjnjaaW.PrintWords Go.Proofs.YticjelkofmjnjaaW.PrintLast Go.Proofs.YticjelkofmjnjaaW.PrintMore
set_option linter.unusedVariables false
set_option linter.unusedSimpArgs false
def mkIntS (c : Int) (i : Nat) : Int := c + 1 * (i : Int)
def MarkedIntS (c : Int) (l : List Int) (i : Nat) : Prop := ∀ j, j < i → rd l (j : Int) = mkIntS c j
theorem rd_setIntS (l : List Int) (i j : Nat) (x : Int) (h : i < l.length) : rd (l.set i x) (j : Int) = if j = i then x else rd l (j : Int) := by
 unfold rd
 rw [Int.toNat_natCast, List.getD_eq_getElem?_getD, List.getD_eq_getElem?_getD]
 by_cases e : j = i
 ·subst e; rw [if_pos rfl, List.getElem?_set_self h]; rfl
 ·rw [if_neg e, List.getElem?_set_ne (by omega)]
theorem laws_markIntS.ev_l (c : Int) (hc : 0 ≤ c ∧ c ≤ 1000000) (n : Nat) (hn : n ≤ 1099511627776) (d : Nat) : ∀ (i : Nat) (l : List Int), l.length = n → i + d = n → MarkedIntS c l i → ∃ r : List Int, r.length = n ∧ MarkedIntS c r n ∧ Ev (fun k => laws_markIntS.l0 k l (c + 1 * (i : Int)) (i : Int)) (c + 1 * (n : Int), r) := by
 induction d with
 | zero =>
  intro i l hl hi hm
  obtain rfl : i = n := by omega
  refine ⟨l, hl, hm, ?_⟩
  refine Ev.succ ?_
  simp only [laws_markIntS.l0, show ¬ ((i : Int) < (l.length : Int)) by omega, if_false]
  exact Ev.now _
 | succ d ih =>
  intro i l hl hi hm
  have hlt : i < l.length := by omega
  obtain ⟨r, hr, hmr, hE⟩ := ih (i + 1) (l.set i (mkIntS c i)) (by simpa using hl) (by omega) (fun j hj => by
   rw [rd_setIntS l i j _ hlt]
   by_cases e : j = i
   ·rw [if_pos e, e]
   ·rw [if_neg e]; exact hm j (by omega))
  refine ⟨r, hr, hmr, ?_⟩
  refine Ev.succ ?_
  simp only [laws_markIntS.l0, show ((i : Int) < (l.length : Int)) by omega, show (0 : Int) ≤ (i : Int) by omega, if_true, Option.bind_some, Int.toNat_natCast]
  rw [wid (show -9223372036854775808 ≤ (c + 1 * (i : Int)) + 1 by omega) (by omega), wid (show -9223372036854775808 ≤ (i : Int) + 1 by omega) (by omega)]
  have e1 : c + 1 * (i : Int) + 1 = c + 1 * ((i + 1 : Nat) : Int) := by omega
  rw [e1]
  exact hE
theorem laws_markIntS.ev (l : List Int) (c : Int) (hc : 0 ≤ c ∧ c ≤ 1000000) (hl : l.length ≤ 1099511627776) : ∃ r : List Int, r.length = l.length ∧ MarkedIntS c r r.length ∧ Ev (fun k => laws_markIntS.f k l c) (c + 1 * (l.length : Int), r) := by
 obtain ⟨r, h1, h2, h3⟩ := laws_markIntS.ev_l c hc l.length hl l.length 0 l rfl (by omega) (fun j h => absurd h (by omega))
 refine ⟨r, h1, by rw [h1]; exact h2, ?_⟩
 unfold laws_markIntS.f
 simpa using h3
theorem laws_heldIntS.ev_l (c : Int) (hc : 0 ≤ c ∧ c ≤ 1000000) (l : List Int) (hn : l.length ≤ 1099511627776) (hm : MarkedIntS c l l.length) (d : Nat) : ∀ i : Nat, i + d = l.length → Ev (fun k => laws_heldIntS.l0 k l (c + 1 * (i : Int)) (i : Int)) (c + 1 * (l.length : Int)) := by
 induction d with
 | zero =>
  intro i hi
  obtain rfl : i = l.length := by omega
  refine Ev.succ ?_
  simp only [laws_heldIntS.l0, show ¬ ((l.length : Int) < (l.length : Int)) by omega, if_false]
  exact Ev.now _
 | succ d ih =>
  intro i hi
  refine Ev.succ ?_
  simp only [laws_heldIntS.l0, show ((i : Int) < (l.length : Int)) by omega, show (0 : Int) ≤ (i : Int) by omega, if_true, hm i (by omega), mkIntS]
  rw [wid (show -9223372036854775808 ≤ (c + 1 * (i : Int)) + 1 by omega) (by omega), wid (show -9223372036854775808 ≤ (i : Int) + 1 by omega) (by omega)]
  have e1 : c + 1 * (i : Int) + 1 = c + 1 * ((i + 1 : Nat) : Int) := by omega
  rw [e1]
  exact ih (i + 1) (by omega)
theorem laws_heldIntS.ev (l : List Int) (c : Int) (hc : 0 ≤ c ∧ c ≤ 1000000) (hn : l.length ≤ 1099511627776) (hm : MarkedIntS c l l.length) : Ev (fun k => laws_heldIntS.f k l c) (c + 1 * (l.length : Int)) := by
 unfold laws_heldIntS.f
 simpa using laws_heldIntS.ev_l c hc l hn hm l.length 0 (by omega)
end Go.Proofs.Yticjelkofmjnjaa.P

namespace Go.Proofs.Yticjelkofmjnjaa.P
open Go.RowKit Go.Proofs.YticjelkofmjnjaaW.PrintWords Go.Proofs.YticjelkofmjnjaaW.PrintLast Go.Proofs.YticjelkofmjnjaaW.PrintMore
set_option linter.unusedVariables false
set_option linter.unusedSimpArgs false
theorem impl_areStaffs.eq (l : List Int) : impl_areStaffs.f l = some (l.all (inr 1 100)) := by
 unfold impl_areStaffs.f
 rw [List.not_any_eq_all_not]; congr 1; congr 1; funext n; simp [inr]
end Go.Proofs.Yticjelkofmjnjaa.P

namespace Go.Proofs.Yticjelkofmjnjaa.P
open Go.RowKit Go.Proofs.YticjelkofmjnjaaW.PrintWords Go.Proofs.YticjelkofmjnjaaW.PrintLast Go.Proofs.YticjelkofmjnjaaW.PrintMore
set_option linter.unusedVariables false
set_option linter.unusedSimpArgs false
theorem impl_areSteps.eq (l : List Int) : impl_areSteps.f l = some (l.all (inr 1 2000)) := by
 unfold impl_areSteps.f
 rw [List.not_any_eq_all_not]; congr 1; congr 1; funext n; simp [inr]
end Go.Proofs.Yticjelkofmjnjaa.P

namespace Go.Proofs.Yticjelkofmjnjaa.P
open Go.RowKit Go.Proofs.YticjelkofmjnjaaW.PrintWords Go.Proofs.YticjelkofmjnjaaW.PrintLast Go.Proofs.YticjelkofmjnjaaW.PrintMore
set_option linter.unusedVariables false
set_option linter.unusedSimpArgs false
theorem spec_l1In.eq (a lo hi : Int) : spec_l1In.f a lo hi = some (inr lo hi a) := by
 unfold spec_l1In.f inr
 by_cases h : a ≥ lo
 ·rw [if_pos h]; simp [show lo ≤ a from h]
 ·rw [if_neg h]; simp [show ¬ lo ≤ a from h]
end Go.Proofs.Yticjelkofmjnjaa.P

namespace Go.Proofs.Yticjelkofmjnjaa.P
open Go.RowKit Go.Proofs.YticjelkofmjnjaaW.PrintWords Go.Proofs.YticjelkofmjnjaaW.PrintLast Go.Proofs.YticjelkofmjnjaaW.PrintMore
set_option linter.unusedVariables false
set_option linter.unusedSimpArgs false
theorem spec_l1All.ev_l (l : List Int) (lo hi : Int) (hm : l.length ≤ 9223372036854775807) (d : Nat) : ∀ i : Nat, i + d = l.length → Ev (fun k => spec_l1All.l0 k lo hi l (l.length : Int) (i : Int)) ((l.drop i).all (inr lo hi)) := by
 induction d with
 | zero =>
  intro i he
  refine Ev.step (f := fun _ => some true) (fun k => by simp only [spec_l1All.l0]; rw [if_neg (by omega)]) ?_
  exact Ev.const (by rw [show i = l.length by omega, List.drop_length]; rfl)
 | succ d ih =>
  intro i he
  have hlt : i < l.length := by omega
  have hx : rd l (i : Int) = l[i] := by simp [rd, List.getD_eq_getElem?_getD, List.getElem?_eq_getElem hlt]
  have hd : (l.drop i).all (inr lo hi) = (inr lo hi l[i] && (l.drop (i + 1)).all (inr lo hi)) := by rw [List.drop_eq_getElem_cons hlt, List.all_cons]
  refine Ev.step (f := fun k => if inr lo hi l[i] = true then spec_l1All.l0 k lo hi l (l.length : Int) (((i + 1 : Nat)) : Int) else some false) (fun k => ?_) ?_
  ·simp only [spec_l1All.l0]
   rw [if_pos (by omega), if_pos (by omega), if_pos (by omega), hx, spec_l1In.eq, Option.bind_some, wid (by omega) (by omega)]
   rfl
  ·rw [hd]
   cases hp : inr lo hi l[i] with
   | true => simp only [Bool.true_and, if_true]; exact ih (i + 1) (by omega)
   | false => exact Ev.const (by simp)
theorem spec_l1All.ev {l : List Int} {lo hi : Int} (hm : l.length ≤ 9223372036854775807) : Ev (fun k => spec_l1All.f k l lo hi) (l.all (inr lo hi)) := by
 unfold spec_l1All.f
 exact ev_eq (spec_l1All.ev_l l lo hi hm l.length 0 (by omega)) (by simp)
end Go.Proofs.Yticjelkofmjnjaa.P

namespace Go.Proofs.Yticjelkofmjnjaa.P
open Go.RowKit Go.Proofs.YticjelkofmjnjaaW.PrintWords Go.Proofs.YticjelkofmjnjaaW.PrintLast Go.Proofs.YticjelkofmjnjaaW.PrintMore
set_option linter.unusedVariables false
set_option linter.unusedSimpArgs false
theorem spec_htLong.ev {l : List Int} (hm : l.length ≤ 9223372036854775807) : Ev (fun k => spec_htLong.f k l) (l.all (inr 1 2000)) := by
 unfold spec_htLong.f
 exact Ev.bind (spec_l1All.ev hm) (Ev.now _)
end Go.Proofs.Yticjelkofmjnjaa.P

namespace Go.Proofs.Yticjelkofmjnjaa.P
open Go.RowKit Go.Proofs.YticjelkofmjnjaaW.PrintWords Go.Proofs.YticjelkofmjnjaaW.PrintLast Go.Proofs.YticjelkofmjnjaaW.PrintMore
set_option linter.unusedVariables false
set_option linter.unusedSimpArgs false
theorem spec_htStaff.eq (a : Int) : spec_htStaff.f a = some (inr 1 100 a) := by
 unfold spec_htStaff.f; rw [spec_l1In.eq]; rfl
end Go.Proofs.Yticjelkofmjnjaa.P

namespace Go.Proofs.Yticjelkofmjnjaa.P
open Go.RowKit Go.Proofs.YticjelkofmjnjaaW.PrintWords Go.Proofs.YticjelkofmjnjaaW.PrintLast Go.Proofs.YticjelkofmjnjaaW.PrintMore
set_option linter.unusedVariables false
set_option linter.unusedSimpArgs false
theorem gcd_tmod (a b : Int) : Int.gcd b (Int.tmod a b) = Int.gcd a b := by
 rw [Int.gcd_eq_natAbs_gcd_natAbs, Int.gcd_eq_natAbs_gcd_natAbs, Int.natAbs_tmod, Nat.gcd_comm, Nat.gcd_comm a.natAbs]
 exact (Nat.gcd_rec _ _).symm
theorem impl_gcd.ev_l (n : Nat) : ∀ a b : Int, b.natAbs ≤ n → -9223372036854775807 ≤ a → a ≤ 9223372036854775807 → -9223372036854775807 ≤ b → b ≤ 9223372036854775807 → Ev (fun k => impl_gcd.l0 k a b) (Int.gcd a b : Int) := by
 induction n using Nat.strongRecOn with
 | ind n ih =>
  intro a b hn ha0 ha1 hb0 hb1
  by_cases hb : b = 0
  ·subst hb
   refine Ev.step (f := fun _ => some (mx a (wrap64 (-a)))) (fun k => by simp only [impl_gcd.l0, if_true]) ?_
   refine Ev.const ?_
   rw [wid (by omega) (by omega), Int.gcd_zero_right]
   congr 1
   unfold mx; split <;> omega
  ·refine Ev.step (f := fun k => impl_gcd.l0 k b (Int.tmod a b)) (fun k => by simp only [impl_gcd.l0]; rw [if_neg hb]) ?_
   have h1 : (Int.tmod a b).natAbs < b.natAbs := by rw [Int.natAbs_tmod]; exact Nat.mod_lt _ (by omega)
   exact ev_eq (ih (Int.tmod a b).natAbs (by omega) b (Int.tmod a b) (Nat.le_refl _) hb0 hb1 (by omega) (by omega)) (by rw [gcd_tmod])
theorem impl_gcd.ev {a b : Int} (ha0 : -9223372036854775807 ≤ a) (ha1 : a ≤ 9223372036854775807) (hb0 : -9223372036854775807 ≤ b) (hb1 : b ≤ 9223372036854775807) : Ev (fun k => impl_gcd.f k a b) (Int.gcd a b : Int) := by
 unfold impl_gcd.f; exact impl_gcd.ev_l _ a b (Nat.le_refl _) ha0 ha1 hb0 hb1
/-- The fraction in lowest terms. -/
def loA (a b : Int) : Int := a / (Int.gcd a b : Int)
def loB (a b : Int) : Int := b / (Int.gcd a b : Int)
theorem gcd_pos {a b : Int} (hb : 0 < b) : (0 : Int) < (Int.gcd a b : Int) := by
 have : 0 < Int.gcd a b := Int.gcd_pos_of_ne_zero_right _ (by omega)
 omega
theorem lo_mulA {a b : Int} : loA a b * (Int.gcd a b : Int) = a := Int.ediv_mul_cancel (Int.gcd_dvd_left ..)
theorem lo_mulB {a b : Int} : loB a b * (Int.gcd a b : Int) = b := Int.ediv_mul_cancel (Int.gcd_dvd_right ..)
theorem loA_bd {a b : Int} (hb : 0 < b) : (loA a b).natAbs ≤ a.natAbs := by
 unfold loA
 rw [Int.natAbs_ediv_of_dvd (Int.gcd_dvd_left ..)]
 exact Nat.div_le_self _ _
theorem loB_pos {a b : Int} (hb : 0 < b) : 0 < loB a b ∧ loB a b ≤ b := by
 have g := gcd_pos (a := a) hb
 have e := lo_mulB (a := a) (b := b)
 have h0 : 0 < loB a b := by
  rcases Int.lt_or_le 0 (loB a b) with h | h
  ·exact h
  ·have := Int.mul_nonneg (show 0 ≤ -(loB a b) by omega) (show 0 ≤ (Int.gcd a b : Int) by omega)
   rw [Int.neg_mul, e] at this
   omega
 refine ⟨h0, ?_⟩
 have : loB a b * 1 ≤ loB a b * (Int.gcd a b : Int) := Int.mul_le_mul_of_nonneg_left (by omega) (by omega)
 rw [e] at this
 omega
theorem loA_nonneg {a b : Int} (ha : 0 ≤ a) (hb : 0 < b) : 0 ≤ loA a b ∧ loA a b ≤ a := by
 have g := gcd_pos (a := a) hb
 refine ⟨Int.ediv_nonneg ha (by omega), ?_⟩
 have := loA_bd (a := a) hb
 have h0 : 0 ≤ loA a b := Int.ediv_nonneg ha (by omega)
 omega
theorem tdiv_gcd_l {a b : Int} : Int.tdiv a (Int.gcd a b : Int) = loA a b := Int.tdiv_eq_ediv_of_dvd (Int.gcd_dvd_left ..)
theorem tdiv_gcd_r {a b : Int} : Int.tdiv b (Int.gcd a b : Int) = loB a b := Int.tdiv_eq_ediv_of_dvd (Int.gcd_dvd_right ..)
theorem impl_fraction.ev {a b : Int} (ha0 : -9223372036854775807 ≤ a) (ha1 : a ≤ 9223372036854775807) (hb0 : 0 < b) (hb1 : b ≤ 9223372036854775807) : Ev (fun k => impl_fraction.f k a b) (loA a b, loB a b, true) := by
 unfold impl_fraction.f
 refine Ev.bind (impl_gcd.ev ha0 ha1 (by omega) hb1) ?_
 have g := gcd_pos (a := a) hb0
 have h1 := loA_bd (a := a) hb0
 have h2 := loB_pos (a := a) hb0
 refine Ev.const ?_
 rw [if_neg (by omega), tdiv_gcd_l, tdiv_gcd_r, wid (by omega) (by omega), wid (by omega) (by omega)]
end Go.Proofs.Yticjelkofmjnjaa.P

namespace Go.Proofs.Yticjelkofmjnjaa.P
open Go.RowKit Go.Proofs.YticjelkofmjnjaaW.PrintWords Go.Proofs.YticjelkofmjnjaaW.PrintLast Go.Proofs.YticjelkofmjnjaaW.PrintMore
set_option linter.unusedVariables false
set_option linter.unusedSimpArgs false
theorem spec_clLow.ev_l (x y : Int) (hx0 : 0 ≤ x) (hx1 : x ≤ 9223372036854775807) (hy0 : 0 < y) (hy1 : y ≤ 9223372036854775807) (n : Nat) : ∀ a b : Int, b.natAbs ≤ n → 0 ≤ a → 0 ≤ b → (0 < a ∨ 0 < b) → Int.gcd a b = Int.gcd x y → Ev (fun k => spec_clLow.l0 k x y a b) (loA x y, loB x y) := by
 induction n using Nat.strongRecOn with
 | ind n ih =>
  intro a b hn ha hb hab hg
  by_cases hb' : b = 0
  ·subst hb'
   refine Ev.step (f := fun _ => some (wrap64 (Int.tdiv x a), wrap64 (Int.tdiv y a))) (fun k => by simp only [spec_clLow.l0]; rw [if_neg (by omega), if_neg (by omega)]) ?_
   refine Ev.const ?_
   have ea : a = (Int.gcd x y : Int) := by rw [← hg, Int.gcd_zero_right]; omega
   have h1 := loA_bd (a := x) hy0
   have h2 := loB_pos (a := x) hy0
   rw [ea, tdiv_gcd_l, tdiv_gcd_r, wid (by omega) (by omega), wid (by omega) (by omega)]
  ·refine Ev.step (f := fun k => spec_clLow.l0 k x y b (Int.tmod a b)) (fun k => by simp only [spec_clLow.l0]; rw [if_pos (by omega), if_neg hb']) ?_
   have h1 : (Int.tmod a b).natAbs < b.natAbs := by rw [Int.natAbs_tmod]; exact Nat.mod_lt _ (by omega)
   exact ih (Int.tmod a b).natAbs (by omega) b (Int.tmod a b) (Nat.le_refl _) hb (Int.tmod_nonneg _ ha) (.inl (by omega)) ((gcd_tmod a b).trans hg)
theorem spec_clLow.ev {x y : Int} (hx0 : 0 ≤ x) (hx1 : x ≤ 9223372036854775807) (hy0 : 0 < y) (hy1 : y ≤ 9223372036854775807) : Ev (fun k => spec_clLow.f k x y) (loA x y, loB x y) := by
 unfold spec_clLow.f; exact spec_clLow.ev_l x y hx0 hx1 hy0 hy1 _ x y (Nat.le_refl _) hx0 (by omega) (.inr hy0) rfl
end Go.Proofs.Yticjelkofmjnjaa.P

namespace Go.Proofs.Yticjelkofmjnjaa.P
open Go.RowKit Go.Proofs.YticjelkofmjnjaaW.PrintWords Go.Proofs.YticjelkofmjnjaaW.PrintLast Go.Proofs.YticjelkofmjnjaaW.PrintMore
set_option linter.unusedVariables false
set_option linter.unusedSimpArgs false
def wIs (a b c d : Int) : Bool := inr 1 100 a && (inr 1 2000 b && (inr 1 2000 c && (inr 1 2000 d && decide (c < d))))
theorem wIs_of {a b c d : Int} (ha : 1 ≤ a ∧ a ≤ 100) (hb : 1 ≤ b ∧ b ≤ 2000) (hc : 1 ≤ c) (hcd : c < d) (hd : d ≤ 30) : wIs a b c d = true := by
 unfold wIs; simp only [Bool.and_eq_true, inr_iff, decide_eq_true_eq]; omega
theorem w_impl_IsIsland.eq (a b c d : Int) : impl_IsIsland.f a b c d = some (wIs a b c d) := by
 unfold impl_IsIsland.f wIs
 rw [impl_areStaffs.eq, impl_areSteps.eq]
 simp only [Option.bind_some, List.all_cons, List.all_nil, Bool.and_true]
 cases inr 1 100 a <;> cases inr 1 2000 b <;> cases inr 1 2000 c <;> cases inr 1 2000 d <;> simp
def wHt (a b c d : Int) : Int × Int := (loA (a * (b + (d - c))) (d - c), loB (a * (b + (d - c))) (d - c))
def wAw (b c d : Int) : Int × Int := (loA (c * b) (d - c), loB (c * b) (d - c))
end Go.Proofs.Yticjelkofmjnjaa.P

namespace Go.Proofs.Yticjelkofmjnjaa.P
open Go.RowKit Go.Proofs.YticjelkofmjnjaaW.PrintWords Go.Proofs.YticjelkofmjnjaaW.PrintLast Go.Proofs.YticjelkofmjnjaaW.PrintMore
set_option linter.unusedVariables false
set_option linter.unusedSimpArgs false
theorem w_impl_IslandHeight.ev {a b c d : Int} (ha : 1 ≤ a ∧ a ≤ 100) (hb : 1 ≤ b ∧ b ≤ 2000) (hc : 1 ≤ c) (hcd : c < d) (hd : d ≤ 30) : Ev (fun k => impl_IslandHeight.f k a b c d) ((wHt a b c d).1, (wHt a b c d).2, true) := by
 have p := mul_bd (a := a) (b := b + (d - c)) (A := 100) (B := 4000) (by omega) (by omega) (by omega) (by omega)
 have p1 := mul_bd (a := a) (b := b) (A := 100) (B := 2000) (by omega) (by omega) (by omega) (by omega)
 have p2 := mul_bd (a := a) (b := d - c) (A := 100) (B := 2000) (by omega) (by omega) (by omega) (by omega)
 obtain ⟨K2, h2⟩ := impl_fraction.ev (a := a * (b + (d - c))) (b := d - c) (by omega) (by omega) (by omega) (by omega)
 refine ⟨K2, fun k hk => ?_⟩
 have h2 := h2 k (by omega)
 dsimp only at *
 unfold impl_IslandHeight.f
 rw [w_impl_IsIsland.eq, wIs_of ha hb hc hcd hd, wid (show -9223372036854775808 ≤ d - c by omega) (by omega), wid (show -9223372036854775808 ≤ a * b by omega) (by omega), wid (show -9223372036854775808 ≤ a * (d - c) by omega) (by omega), wid (show -9223372036854775808 ≤ a * b + a * (d - c) by omega) (by omega), ← Int.mul_add, h2]
 rfl
theorem w_impl_IslandAway.ev {a b c d : Int} (ha : 1 ≤ a ∧ a ≤ 100) (hb : 1 ≤ b ∧ b ≤ 2000) (hc : 1 ≤ c) (hcd : c < d) (hd : d ≤ 30) : Ev (fun k => impl_IslandAway.f k a b c d) ((wAw b c d).1, (wAw b c d).2, true) := by
 have p := mul_bd (a := c) (b := b) (A := 2000) (B := 2000) (by omega) (by omega) (by omega) (by omega)
 obtain ⟨K2, h2⟩ := impl_fraction.ev (a := c * b) (b := d - c) (by omega) (by omega) (by omega) (by omega)
 refine ⟨K2, fun k hk => ?_⟩
 have h2 := h2 k (by omega)
 dsimp only at *
 unfold impl_IslandAway.f
 rw [w_impl_IsIsland.eq, wIs_of ha hb hc hcd hd, wid (show -9223372036854775808 ≤ d - c by omega) (by omega), wid (show -9223372036854775808 ≤ c * b by omega) (by omega), h2]
 rfl
theorem w_spec_htHeight.ev {a b c d : Int} (ha : 1 ≤ a ∧ a ≤ 100) (hb : 1 ≤ b ∧ b ≤ 2000) (hc : 1 ≤ c) (hcd : c < d) (hd : d ≤ 30) : Ev (fun k => spec_htHeight.f k a b c d) (wHt a b c d) := by
 have p := mul_bd (a := a) (b := b + (d - c)) (A := 100) (B := 4000) (by omega) (by omega) (by omega) (by omega)
 obtain ⟨K2, h2⟩ := spec_clLow.ev (x := a * (b + (d - c))) (y := d - c) (by omega) (by omega) (by omega) (by omega)
 refine ⟨K2, fun k hk => ?_⟩
 have h2 := h2 k (by omega)
 dsimp only at *
 unfold spec_htHeight.f wHt
 rw [wid (show -9223372036854775808 ≤ d - c by omega) (by omega), wid (show -9223372036854775808 ≤ b + (d - c) by omega) (by omega), wid (show -9223372036854775808 ≤ a * (b + (d - c)) by omega) (by omega), h2]
 rfl
theorem w_spec_htAway.ev {a b c d : Int} (ha : 1 ≤ a ∧ a ≤ 100) (hb : 1 ≤ b ∧ b ≤ 2000) (hc : 1 ≤ c) (hcd : c < d) (hd : d ≤ 30) : Ev (fun k => spec_htAway.f k a b c d) (wAw b c d) := by
 have p := mul_bd (a := c) (b := b) (A := 2000) (B := 2000) (by omega) (by omega) (by omega) (by omega)
 obtain ⟨K2, h2⟩ := spec_clLow.ev (x := c * b) (y := d - c) (by omega) (by omega) (by omega) (by omega)
 refine ⟨K2, fun k hk => ?_⟩
 have h2 := h2 k (by omega)
 dsimp only at *
 unfold spec_htAway.f wAw
 rw [wid (show -9223372036854775808 ≤ d - c by omega) (by omega), wid (show -9223372036854775808 ≤ c * b by omega) (by omega), h2]
 rfl
end Go.Proofs.Yticjelkofmjnjaa.P

namespace Go.Proofs.Yticjelkofmjnjaa.P
open Go.RowKit Go.Proofs.YticjelkofmjnjaaW.PrintWords Go.Proofs.YticjelkofmjnjaaW.PrintLast Go.Proofs.YticjelkofmjnjaaW.PrintMore
set_option linter.unusedVariables false
set_option linter.unusedSimpArgs false
def wRow (a b c d : Int) (acc : List (List Int)) : List (List Int) := if (wHt a b c d).2 = 1 ∧ (wAw b c d).2 = 1 then acc ++ [[c, d, (wHt a b c d).1, (wAw b c d).1]] else acc
def wIn (a b c : Int) : Nat → Int → List (List Int) → List (List Int)
 | 0, _, acc => acc
 | n + 1, d, acc => wIn a b c n (d + 1) (wRow a b c d acc)
def wOut (a b : Int) : Nat → Int → List (List Int) → List (List Int)
 | 0, _, acc => acc
 | n + 1, c, acc => wOut a b n (c + 1) (wIn a b c (n + 1) (c + 1) acc)
def wOk (m : Nat) (l : List (List Int)) : Prop := l.length ≤ m ∧ ∀ y ∈ l, y.length ≤ 4
theorem wRow_ok {m : Nat} {a b c d : Int} {acc : List (List Int)} (h : wOk m acc) : wOk (m + 1) (wRow a b c d acc) := by
 unfold wRow
 split
 ·refine ⟨by rw [List.length_append]; have := h.1; simp only [List.length_cons, List.length_nil]; omega, fun y hy => ?_⟩
  rcases List.mem_append.1 hy with h2 | h2
  ·exact h.2 y h2
  ·rw [List.mem_singleton.1 h2]; simp
 ·exact ⟨Nat.le_succ_of_le h.1, h.2⟩
theorem wIn_ok (a b c : Int) : ∀ (n : Nat) (d : Int) (m : Nat) (acc : List (List Int)), wOk m acc → wOk (m + n) (wIn a b c n d acc)
 | 0, _, _, _, h => h
 | n + 1, d, m, acc, h => by
  have := wIn_ok a b c n (d + 1) (m + 1) _ (wRow_ok (a := a) (b := b) (c := c) (d := d) h)
  rw [show m + (n + 1) = m + 1 + n by omega]; exact this
theorem wOut_ok (a b : Int) : ∀ (n : Nat) (c : Int) (m : Nat) (acc : List (List Int)), n ≤ 29 → wOk m acc → wOk (m + 30 * n) (wOut a b n c acc)
 | 0, _, _, _, _, h => h
 | n + 1, c, m, acc, hn, h => by
  have h1 := wIn_ok a b c (n + 1) (c + 1) m acc h
  have := wOut_ok a b n (c + 1) (m + (n + 1)) _ (by omega) h1
  exact ⟨Nat.le_trans this.1 (by omega), this.2⟩
theorem w_impl_l1 {a b c : Int} (ha : 1 ≤ a ∧ a ≤ 100) (hb : 1 ≤ b ∧ b ≤ 2000) (hc : 1 ≤ c) (r : List (List Int) × Bool) : ∀ (n : Nat) (d : Int) (acc : List (List Int)), d + n = 31 → c < d → acc.length + n ≤ 100000 → Ev (fun k => impl_WholeIslands.l0 k a b (wIn a b c n d acc) (c + 1)) r → Ev (fun k => impl_WholeIslands.l1 k a b acc c d) r := by
 intro n
 induction n with
 | zero =>
  intro d acc hd hcd _ h
  refine Ev.succ ?_
  simp only [impl_WholeIslands.l1, show ¬ (d ≤ 30) by omega, if_false, wid (show -9223372036854775808 ≤ c + 1 by omega) (by omega)]
  exact h
 | succ n ih =>
  intro d acc hd hcd hl h
  have hE := ih (d + 1) (wRow a b c d acc) (by omega) (by omega) (by unfold wRow; split <;> (try simp only [List.length_append, List.length_cons, List.length_nil]) <;> omega) h
  refine Ev.succ ?_
  simp only [impl_WholeIslands.l1, show d ≤ 30 by omega, if_true, wid (show -9223372036854775808 ≤ d + 1 by omega) (by omega)]
  refine Ev.bind (w_impl_IslandHeight.ev ha hb hc hcd (by omega)) ?_
  refine Ev.bind (w_impl_IslandAway.ev ha hb hc hcd (by omega)) ?_
  unfold wRow at hE
  by_cases h1 : (wHt a b c d).2 = 1
  ·by_cases h2 : (wAw b c d).2 = 1
   ·simp only [h1, h2, and_self, if_true] at hE ⊢
    simp only [show acc.length < 5864062014805 by omega, if_true]
    exact hE
   ·simp only [h1, h2, and_false, if_true, if_false] at hE ⊢
    exact hE
  ·simp only [h1, false_and, if_false] at hE ⊢
   exact hE
theorem w_impl_l0 {a b : Int} (ha : 1 ≤ a ∧ a ≤ 100) (hb : 1 ≤ b ∧ b ≤ 2000) : ∀ (n : Nat) (c : Int) (acc : List (List Int)), c + n = 30 → 1 ≤ c → wOk (30 * (30 - n)) acc → n ≤ 29 → Ev (fun k => impl_WholeIslands.l0 k a b acc c) (wOut a b n c acc, true) := by
 intro n
 induction n with
 | zero =>
  intro c acc hc0 hc hl _
  refine Ev.succ ?_
  simp only [impl_WholeIslands.l0, show ¬ (c < 30) by omega, if_false]
  exact Ev.now _
 | succ n ih =>
  intro c acc hc0 hc hl hn
  refine Ev.succ ?_
  simp only [impl_WholeIslands.l0, show c < 30 by omega, if_true, wid (show -9223372036854775808 ≤ c + 1 by omega) (by omega)]
  have hk := wIn_ok a b c (n + 1) (c + 1) _ acc hl
  exact w_impl_l1 ha hb hc _ (n + 1) (c + 1) acc (by omega) (by omega) (by have := hl.1; omega) (ih (c + 1) _ (by omega) (by omega) ⟨Nat.le_trans hk.1 (by omega), hk.2⟩ (by omega))
theorem w_spec_l1 {a b c : Int} (ha : 1 ≤ a ∧ a ≤ 100) (hb : 1 ≤ b ∧ b ≤ 2000) (hc : 1 ≤ c) (r : List (List Int) × Bool) : ∀ (n : Nat) (d : Int) (acc : List (List Int)), d + n = 31 → c < d → acc.length + n ≤ 100000 → Ev (fun k => spec_WholeIslands.l0 k a b (wIn a b c n d acc) (c + 1)) r → Ev (fun k => spec_WholeIslands.l1 k a b acc c d) r := by
 intro n
 induction n with
 | zero =>
  intro d acc hd hcd _ h
  refine Ev.succ ?_
  simp only [spec_WholeIslands.l1, show ¬ (d ≤ 30) by omega, if_false, wid (show -9223372036854775808 ≤ c + 1 by omega) (by omega)]
  exact h
 | succ n ih =>
  intro d acc hd hcd hl h
  have hE := ih (d + 1) (wRow a b c d acc) (by omega) (by omega) (by unfold wRow; split <;> (try simp only [List.length_append, List.length_cons, List.length_nil]) <;> omega) h
  refine Ev.succ ?_
  simp only [spec_WholeIslands.l1, show d ≤ 30 by omega, if_true, wid (show -9223372036854775808 ≤ d + 1 by omega) (by omega)]
  refine Ev.bind (w_spec_htHeight.ev ha hb hc hcd (by omega)) ?_
  refine Ev.bind (w_spec_htAway.ev ha hb hc hcd (by omega)) ?_
  unfold wRow at hE
  by_cases h1 : (wHt a b c d).2 = 1
  ·by_cases h2 : (wAw b c d).2 = 1
   ·simp only [h1, h2, and_self, if_true] at hE ⊢
    simp only [show acc.length < 5864062014805 by omega, if_true]
    exact hE
   ·simp only [h1, h2, and_false, if_true, if_false] at hE ⊢
    exact hE
  ·simp only [h1, false_and, if_false] at hE ⊢
   exact hE
theorem w_spec_l0 {a b : Int} (ha : 1 ≤ a ∧ a ≤ 100) (hb : 1 ≤ b ∧ b ≤ 2000) : ∀ (n : Nat) (c : Int) (acc : List (List Int)), c + n = 30 → 1 ≤ c → wOk (30 * (30 - n)) acc → n ≤ 29 → Ev (fun k => spec_WholeIslands.l0 k a b acc c) (wOut a b n c acc, true) := by
 intro n
 induction n with
 | zero =>
  intro c acc hc0 hc hl _
  refine Ev.succ ?_
  simp only [spec_WholeIslands.l0, show ¬ (c < 30) by omega, if_false]
  exact Ev.now _
 | succ n ih =>
  intro c acc hc0 hc hl hn
  refine Ev.succ ?_
  simp only [spec_WholeIslands.l0, show c < 30 by omega, if_true, wid (show -9223372036854775808 ≤ c + 1 by omega) (by omega)]
  have hk := wIn_ok a b c (n + 1) (c + 1) _ acc hl
  exact w_spec_l1 ha hb hc _ (n + 1) (c + 1) acc (by omega) (by omega) (by have := hl.1; omega) (ih (c + 1) _ (by omega) (by omega) ⟨Nat.le_trans hk.1 (by omega), hk.2⟩ (by omega))
def wWhole (a b : Int) : List (List Int) × Bool := if (inr 1 100 a && inr 1 2000 b) = true then (wOut a b 29 1 [], true) else ([], false)
theorem wWhole_ok (a b : Int) : wOk 10000 (wWhole a b).1 := by
 unfold wWhole
 split
 ·have := wOut_ok a b 29 1 0 [] (by omega) ⟨by simp, by simp⟩
  exact ⟨Nat.le_trans this.1 (by omega), this.2⟩
 ·exact ⟨by simp, by simp⟩
theorem impl_WholeIslands.ev (a b : Int) : Ev (fun k => impl_WholeIslands.f k a b) (wWhole a b) := by
 unfold impl_WholeIslands.f wWhole
 refine Ev.bindc (impl_areStaffs.eq _) ?_
 simp only [List.all_cons, List.all_nil, Bool.and_true]
 cases h0 : inr 1 100 a with
 | false =>
  simp only [Bool.false_and, Bool.false_eq_true, if_false]
  refine Ev.succ ?_
  simp only [impl_WholeIslands.j0, if_true]
  exact Ev.now _
 | true =>
  simp only [if_true, Bool.true_and]
  refine Ev.bindc (impl_areSteps.eq _) ?_
  simp only [List.all_cons, List.all_nil, Bool.and_true]
  refine Ev.succ ?_
  cases h1 : inr 1 2000 b with
  | false =>
   simp only [impl_WholeIslands.j0, Bool.not_false, Bool.false_eq_true, if_true, if_false]
   exact Ev.now _
  | true =>
   simp only [impl_WholeIslands.j0, Bool.not_true, Bool.false_eq_true, if_true, if_false]
   exact w_impl_l0 (inr_iff.1 h0) (inr_iff.1 h1) 29 1 [] (by omega) (by omega) ⟨by simp, by simp⟩ (by omega)
theorem spec_WholeIslands.ev (a b : Int) : Ev (fun k => spec_WholeIslands.f k a b) (wWhole a b) := by
 unfold spec_WholeIslands.f wWhole
 refine Ev.bindc (spec_htStaff.eq _) ?_
 cases h0 : inr 1 100 a with
 | false =>
  simp only [Bool.false_and, Bool.false_eq_true, if_false]
  refine Ev.succ ?_
  simp only [spec_WholeIslands.j0, if_true]
  exact Ev.now _
 | true =>
  simp only [if_true, Bool.true_and]
  refine Ev.bind (spec_htLong.ev (l := [b]) (by simp)) ?_
  simp only [List.all_cons, List.all_nil, Bool.and_true]
  refine Ev.succ ?_
  cases h1 : inr 1 2000 b with
  | false =>
   simp only [spec_WholeIslands.j0, Bool.not_false, Bool.false_eq_true, if_true, if_false]
   exact Ev.now _
  | true =>
   simp only [spec_WholeIslands.j0, Bool.not_true, Bool.false_eq_true, if_true, if_false]
   exact w_spec_l0 (inr_iff.1 h0) (inr_iff.1 h1) 29 1 [] (by omega) (by omega) ⟨by simp, by simp⟩ (by omega)
end Go.Proofs.Yticjelkofmjnjaa.P

namespace Go.Proofs.Yticjelkofmjnjaa.P
open Go.RowKit Go.Proofs.YticjelkofmjnjaaW.PrintWords Go.Proofs.YticjelkofmjnjaaW.PrintLast Go.Proofs.YticjelkofmjnjaaW.PrintMore
set_option linter.unusedVariables false
set_option linter.unusedSimpArgs false
def offL (f : Nat → Nat) : Nat → Nat
 | 0 => 0
 | i + 1 => offL f i + f i
theorem offL_le {f : Nat → Nat} (h : ∀ j, f j ≤ 4) : ∀ i, offL f i ≤ 4 * i
 | 0 => Nat.le_refl _
 | i + 1 => by have := offL_le h i; have := h i; simp only [offL]; omega
def lensL (l : List (List Int)) (j : Nat) : Nat := (rd_L1 l (j : Int)).length
def MarkedSS (c : Int) (f : Nat → Nat) (l : List (List Int)) (i : Nat) : Prop := ∀ j, j < i → MarkedIntS (c + (offL f j : Int)) (rd_L1 l (j : Int)) (f j)
theorem rd_setL1 (l : List (List Int)) (i j : Nat) (x : List Int) (h : i < l.length) : rd_L1 (l.set i x) (j : Int) = if j = i then x else rd_L1 l (j : Int) := by
 unfold rd_L1
 rw [Int.toNat_natCast, List.getD_eq_getElem?_getD, List.getD_eq_getElem?_getD]
 by_cases e : j = i
 ·subst e; rw [if_pos rfl, List.getElem?_set_self h]; rfl
 ·rw [if_neg e, List.getElem?_set_ne (by omega)]
theorem lensL_le {m : Nat} {l : List (List Int)} (h : wOk m l) (j : Nat) : lensL l j ≤ 4 := by
 unfold lensL rd_L1
 rw [Int.toNat_natCast, List.getD_eq_getElem?_getD]
 by_cases e : j < l.length
 ·rw [List.getElem?_eq_getElem e]; exact h.2 _ (List.getElem_mem e)
 ·rw [List.getElem?_eq_none (by omega)]; simp
theorem laws_markIntSS.ev_l (c : Int) (hc : 0 ≤ c ∧ c ≤ 1000) (f : Nat → Nat) (hf : ∀ j, f j ≤ 4) (n : Nat) (hn : n ≤ 10000) (d : Nat) : ∀ (i : Nat) (l : List (List Int)), l.length = n → i + d = n → (∀ j, lensL l j = f j) → MarkedSS c f l i → ∃ r : List (List Int), r.length = n ∧ (∀ j, lensL r j = f j) ∧ MarkedSS c f r n ∧ Ev (fun k => laws_markIntSS.l0 k l (c + (offL f i : Int)) (i : Int)) (c + (offL f n : Int), r) := by
 induction d with
 | zero =>
  intro i l hl hi hlen hm
  obtain rfl : i = n := by omega
  refine ⟨l, hl, hlen, hm, ?_⟩
  refine Ev.succ ?_
  simp only [laws_markIntSS.l0, show ¬ ((i : Int) < (l.length : Int)) by omega, if_false]
  exact Ev.now _
 | succ d ih =>
  intro i l hl hi hlen hm
  have hlt : i < l.length := by omega
  have ho := offL_le hf i
  have h4 := hf i
  have hli : (rd_L1 l (i : Int)).length = f i := hlen i
  obtain ⟨r', hr1, hr2, hr3⟩ := laws_markIntS.ev (rd_L1 l (i : Int)) (c + (offL f i : Int)) (by omega) (by omega)
  obtain ⟨r, hr, hlr, hmr, hE⟩ := ih (i + 1) (l.set i r') (by simpa using hl) (by omega) (fun j => by
   unfold lensL
   rw [rd_setL1 l i j _ hlt]
   by_cases e : j = i
   ·rw [if_pos e, e, hr1]; exact hli
   ·rw [if_neg e]; exact hlen j) (fun j hj => by
   rw [rd_setL1 l i j _ hlt]
   by_cases e : j = i
   ·subst e; rw [if_pos rfl, ← hli, ← hr1]; exact hr2
   ·rw [if_neg e]; exact hm j (by omega))
  refine ⟨r, hr, hlr, hmr, ?_⟩
  refine Ev.succ ?_
  simp only [laws_markIntSS.l0, show ((i : Int) < (l.length : Int)) by omega, show (0 : Int) ≤ (i : Int) by omega, if_true]
  refine Ev.bind hr3 ?_
  simp only [Int.toNat_natCast, wid (show -9223372036854775808 ≤ (i : Int) + 1 by omega) (by omega)]
  have e1 : c + (offL f i : Int) + 1 * ((rd_L1 l (i : Int)).length : Int) = c + (offL f (i + 1) : Int) := by simp only [offL, hli]; omega
  rw [e1]
  exact hE
theorem laws_markIntSS.ev (l : List (List Int)) (c : Int) (hc : 0 ≤ c ∧ c ≤ 1000) (hl : wOk 10000 l) : ∃ r : List (List Int), ∃ s : Int, 0 ≤ s ∧ r.length = l.length ∧ (∀ j, lensL r j = lensL l j) ∧ MarkedSS c (lensL l) r l.length ∧ s = c + (offL (lensL l) l.length : Int) ∧ Ev (fun k => laws_markIntSS.f k l c) (s, r) := by
 obtain ⟨r, h1, h2, h3, h4⟩ := laws_markIntSS.ev_l c hc (lensL l) (lensL_le hl) l.length hl.1 l.length 0 l rfl (by omega) (fun _ => rfl) (fun j h => absurd h (by omega))
 refine ⟨r, _, ?_, h1, h2, h3, rfl, ?_⟩
 ·omega
 ·unfold laws_markIntSS.f
  simpa [offL] using h4
theorem laws_heldIntSS.ev_l (c : Int) (hc : 0 ≤ c ∧ c ≤ 1000) (f : Nat → Nat) (hf : ∀ j, f j ≤ 4) (l : List (List Int)) (hn : l.length ≤ 10000) (hlen : ∀ j, lensL l j = f j) (hm : MarkedSS c f l l.length) (d : Nat) : ∀ i : Nat, i + d = l.length → Ev (fun k => laws_heldIntSS.l0 k l (c + (offL f i : Int)) (i : Int)) (c + (offL f l.length : Int)) := by
 induction d with
 | zero =>
  intro i hi
  obtain rfl : i = l.length := by omega
  refine Ev.succ ?_
  simp only [laws_heldIntSS.l0, show ¬ ((l.length : Int) < (l.length : Int)) by omega, if_false]
  exact Ev.now _
 | succ d ih =>
  intro i hi
  have ho := offL_le hf i
  have h4 := hf i
  have hli : (rd_L1 l (i : Int)).length = f i := hlen i
  refine Ev.succ ?_
  simp only [laws_heldIntSS.l0, show ((i : Int) < (l.length : Int)) by omega, show (0 : Int) ≤ (i : Int) by omega, if_true]
  refine Ev.bind (laws_heldIntS.ev (rd_L1 l (i : Int)) (c + (offL f i : Int)) (by omega) (by omega) (by rw [hli]; exact hm i (by omega))) ?_
  have e1 : c + (offL f i : Int) + 1 * ((rd_L1 l (i : Int)).length : Int) = c + (offL f (i + 1) : Int) := by simp only [offL, hli]; omega
  simp only [e1, wid (show -9223372036854775808 ≤ (i : Int) + 1 by omega) (by omega), show ¬ (c + (offL f (i + 1) : Int) < 0) by omega, if_false]
  exact ih (i + 1) (by omega)
theorem laws_heldIntSS.ev (c : Int) (hc : 0 ≤ c ∧ c ≤ 1000) (f : Nat → Nat) (hf : ∀ j, f j ≤ 4) (l : List (List Int)) (hn : l.length ≤ 10000) (hlen : ∀ j, lensL l j = f j) (hm : MarkedSS c f l l.length) : Ev (fun k => laws_heldIntSS.f k l c) (c + (offL f l.length : Int)) := by
 unfold laws_heldIntSS.f
 simpa [offL] using laws_heldIntSS.ev_l c hc f hf l hn hlen hm l.length 0 (by omega)
theorem laws_eqIntSS.ev_l (l : List (List Int)) (hl : wOk 10000 l) (d : Nat) : ∀ i : Nat, i + d = l.length → Ev (fun k => laws_eqIntSS.l0 k l l (i : Int)) true := by
 have hn := hl.1
 induction d with
 | zero =>
  intro i hi
  refine Ev.succ ?_
  simp only [laws_eqIntSS.l0, show ¬ ((i : Int) < (l.length : Int)) by omega, if_false]
  exact Ev.now _
 | succ d ih =>
  intro i hi
  have h4 := lensL_le hl i
  refine Ev.succ ?_
  simp only [laws_eqIntSS.l0, show ((i : Int) < (l.length : Int)) by omega, show (0 : Int) ≤ (i : Int) by omega, if_true]
  refine Ev.bind (laws_eqIntS.refl (l := rd_L1 l (i : Int)) (Nat.le_trans h4 (by omega))) ?_
  simp only [if_true, wid (show -9223372036854775808 ≤ (i : Int) + 1 by omega) (by omega)]
  exact ih (i + 1) (by omega)
theorem laws_eqIntSS.refl {l : List (List Int)} (hl : wOk 10000 l) : Ev (fun k => laws_eqIntSS.f k l l) true := by
 unfold laws_eqIntSS.f
 simp only [if_true]
 exact laws_eqIntSS.ev_l l hl l.length 0 (by omega)
end Go.Proofs.Yticjelkofmjnjaa.P

namespace Go.Proofs.Yticjelkofmjnjaa.Pure
open Go.RowKit Go.Proofs.YticjelkofmjnjaaW.PrintWords Go.Proofs.YticjelkofmjnjaaW.PrintLast Go.Proofs.YticjelkofmjnjaaW.PrintMore Go.Proofs.Yticjelkofmjnjaa.P
set_option linter.unusedVariables false
set_option linter.unusedSimpArgs false
theorem FnExactWholeIslands : laws_FnExactWholeIslands.Pure := fun a b _ _ => by
 have hok := wWhole_ok a b
 refine Ev.rounds ?_
 unfold laws_FnExactWholeIslands.f
 refine Ev.bind (spec_WholeIslands.ev a b) ?_
 refine Ev.bind (impl_WholeIslands.ev a b) ?_
 refine Ev.bind (laws_eqIntSS.refl hok) ?_
 simp only [if_true, bne_self_eq_false]
 refine Ev.succ ?_
 simp only [laws_FnExactWholeIslands.j0, Bool.false_eq_true, if_false]
 obtain ⟨r, s, hs0, hr1, hr2, hr3, hs, hr4⟩ := laws_markIntSS.ev (wWhole a b).1 1 (by omega) hok
 refine Ev.bind hr4 ?_
 have hh := laws_heldIntSS.ev 1 (by omega) (lensL (wWhole a b).1) (lensL_le hok) r (by rw [hr1]; exact hok.1) hr2 (by rw [hr1]; exact hr3)
 rw [hr1, ← hs] at hh
 refine Ev.bind hh ?_
 simp only [show ¬ (s < 0) by omega, if_false, if_true]
 refine Ev.bind (impl_WholeIslands.ev a b) ?_
 refine Ev.bind (laws_eqIntSS.refl hok) ?_
 simp only [if_true, bne_self_eq_false]
 refine Ev.succ ?_
 simp only [laws_FnExactWholeIslands.j1, Bool.false_eq_true, if_false]
 refine Ev.bind hh ?_
 simp only [show ¬ (s < 0) by omega, if_false, if_true]
 exact Ev.now _
end Go.Proofs.Yticjelkofmjnjaa.Pure

namespace Go.Proofs.Yticjelkofmjnjaa.fnExactWholeIslands
open Go.ChangeShapes Go.WideShapes Go.ChangeAt Go.RowKit
open Go.ChangeMaps (open_string shut_string)
set_option linter.unusedVariables false
theorem own : ownKnob Try.prog.godebug = none := by kernel_rfl
set_option maxRecDepth 100000 in
theorem lifted (os : Os) (started : os.Started) (H : Type) (enc : TypeId × Value → H) :
  ReturnsInHanded {} Try.checked os 3 .any (Rows.fnExactWholeIslandsSpec.pre6 enc Try.prog Try.f3 Rows.fnExactWholeIslandsRow.domain false) (Rows.fnExactWholeIslandsSpec.post enc Try.prog Try.f3 false true false false) := by
 refine returnsInHanded_of_change_sized (C := Try.checked) own started (by kernel_rfl) Try.func3
  (ChangeSpec.witness6 (enc := enc) (C := Try.checked) false ⟨#[], #[.int .i64 0, .int .i64 0], []⟩ 8 (by kernel_rfl) (by kernel_rfl) (by kernel_rfl) (by kernel_rfl)) ?_
 intro W base args ds gs before hval0 hW hcnd hsz0 _
 have hsz : (DataW.weightsEach Try.prog (Try.f3.params.toList ++ Rows.fnExactWholeIslandsSpec.plain.varTypes Try.prog) (ds ++ gs)).all (· ≤ reachBytes) = true := hsz0
 have hval : ∀ (j : Nat) t v, Try.f3.params[j]? = some t → args[j]? = some v → Value.okWide Try.prog W .any base t v := hval0
 have hW' := hW
 obtain ⟨p, q, hA0, hV, rfl, hfz, hnd⟩ := hW
 have hA : DataW.TrodAll enc Try.prog W 0 (fun _ => true) true Try.f3.params.toList args.toList ds p := hA0
 rw [Try.params3] at hA hval hsz
 obtain ⟨v0, vs0, d0, ds0, p0, q0, hargs, rfl, rfl, h0, r0⟩ := trodAll_cons hA
 obtain ⟨v1, vs1, d1, ds1, p1, q1, rfl, rfl, rfl, h1, r1⟩ := trodAll_cons r0
 obtain ⟨rfl, rfl, rfl⟩ := trodAll_nil r1
 obtain rfl : args = #[v0, v1] := by cases args; simp_all
 obtain ⟨rfl, rfl⟩ := trodVars_none hV
 obtain ⟨a0, rfl, rfl, rfl, w0⟩ := open_int Try.underlying3 (hval 0 3 v0 rfl rfl) h0
 obtain ⟨a1, rfl, rfl, rfl, w1⟩ := open_int Try.underlying3 (hval 1 3 v1 rfl rfl) h1
 clear hA0 hval0 hsz0 hsz
 refine (P.laws_FnExactWholeIslands.walk Pure.FnExactWholeIslands a0 a1 W w0 w1).mono fun e W' ⟨he, bel⟩ => ?_
 subst he
 exact ⟨_, rfl, _, _, _, [], _, [], hW', trodAll_mk1 (shut_bool Try.underlying4 _), (trodAll_cons_mk (shut_int Try.underlying3 w0) (trodAll_cons_mk (shut_int Try.underlying3 w1) trodAll_mk0)), rfl, bel.frame _, fun h => by cases h⟩
theorem over : Rows.fnExactWholeIslandsRow.holds Try.pinned (OpenSpec.ofChange Rows.fnExactWholeIslandsSpec) :=
 OpenClaim.holds_of_wide 3 Try.f3 rfl rfl rfl rfl rfl rfl rfl ⟨rfl, rfl, rfl, rfl, rfl⟩ rfl rfl rfl rfl rfl (by kernel_rfl) Try.func3 (by kernel_rfl)
  (of_decide_eq_true (by kernel_rfl)) (by unfold Func.isWrapper; first | (rw [if_pos (by decide +kernel)]; kernel_rfl) | (rw [if_neg (by decide +kernel)]; exact ⟨rfl, rfl⟩))
  (fun os started H enc _ => lifted os started H enc)
theorem proved : Rows.FnExactWholeIslandsSaid := over
end Go.Proofs.Yticjelkofmjnjaa.fnExactWholeIslands
namespace Go.Proofs.Yticjelkofmjnjaa
/-- The row, under a short name, for the claim. -/
theorem fnExactWholeIslands_holds : Rows.FnExactWholeIslandsSaid := fnExactWholeIslands.proved
end Go.Proofs.Yticjelkofmjnjaa
