/- The law FnLaddersHiddenOfAll is proved: a call of it returns true and leaves its arguments as they were; and what this needs. Every input that the given rows speak of; nothing else is asked. -/
import Derived.Test.YthioojdannlhiaaProg
import Derived.Below
import Derived.Deep.Draws
import Derived.Deep.AppendLies
import Derived.Maps.AppendAt
import Derived.OwnWalk
import Derived.Laws.BytesArg
import Derived.Laws.MakeOwn
import Derived.Laws.OwnMore
import Derived.Deep.OwnRows
import Derived.Tactics
import Derived.Lib.ConvBytes
import Derived.Laws.Slices
import Derived.WalkKit
import Derived.KernelRfl
import Derived.RowKit3
import Derived.Deep.LoopGhost
import Derived.Deep.QuietTactic
import Derived.BigQuiet
import Derived.WideLaws
import Derived.Deep.DeepCutAuto
import Derived.Deep.CutBlock
import Derived.Deep.RegionHeld3
import Derived.Laws.Rows
import Derived.Lib.AppendStr
import Derived.ArgAppend
import Derived.Laws.IdiomCopy
import Derived.OrdersHeld
import Derived.Laws.BitsLemmas
import Derived.RowKit
import Derived.Shelf.Abstract
import Derived.WalkSpells
import Derived.Lib.SliceRun
import Derived.Test.YthioojdannlhiaaOW
namespace Go.Proofs.Ythioojdannlhiaa.P
open Go.RowKit Go.Proofs.YthioojdannlhiaaW.PrintWords Go.Proofs.YthioojdannlhiaaW.PrintLast Go.Proofs.YthioojdannlhiaaW.PrintMore
set_option linter.unusedVariables false
theorem zO0_0 {p : Prop} (h : p := by repeat (first | (with_reducible first | exact HB.out | apply below_alloc | apply pw_below_drewN | apply below_drew1) | exact HB.out)) : p := h
theorem zO0_1 {p : Prop} (h : p := by first | (with_reducible assumption) | assumption) : p := h
theorem zO0_2 {p : Prop} (h : p := by assumption) : p := h
theorem zO0_3 {p : Prop} (h : p := by simp) : p := h
end Go.Proofs.Ythioojdannlhiaa.P
namespace Go.Proofs.Ythioojdannlhiaa.P
open Go.RowKit Go.Proofs.YthioojdannlhiaaW.PrintWords Go.Proofs.YthioojdannlhiaaW.PrintLast Go.Proofs.YthioojdannlhiaaW.PrintMore
attribute [local go_sem] max2_int min2_int max_two min_two max_three min_three max_four min_four   -- for this text's walks alone
set_option linter.unusedVariables false
set_option linter.unusedSimpArgs false



def errW : Option Int → Value
 | none => .nilIface
 | some c => .iface 0 (.int .i64 c)
theorem errW_none : errW none = .nilIface := rfl
theorem errW_some (c : Int) : errW (some c) = .iface 0 (.int .i64 c) := rfl

theorem info3 : (Try.prog.info? 3).map (fun i => (i.zero, i.size, i.bytes)) = some (some (.int .i64 0), 1, 8) := by kernel_rfl
theorem info26 : (Try.prog.info? 26).map (fun i => (i.zero, i.size, i.bytes)) = some (some (.slice none 0 0), 1, 24) := by kernel_rfl
theorem info41 : (Try.prog.info? 41).map (fun i => (i.zero, i.size, i.bytes)) = some (some (.agg #[(.int .i64 0), (.int .i64 0), (.int .i64 0)]), 3, 24) := by kernel_rfl
theorem info43 : (Try.prog.info? 43).map (fun i => (i.zero, i.size, i.bytes)) = some (some (.agg #[(.int .i64 0), (.int .i64 0), (.int .i64 0)]), 3, 24) := by kernel_rfl
-- the values' own types
/-! #### struct type 103 -/
structure S103 where
 f0 : Int
 f1 : Int
 f2 : Int
def z103 : S103 := ⟨(0 : Int), (0 : Int), (0 : Int)⟩
def k103 : Kd S103 := Kd.iso (Kd.pair (Kd.int .i64) (Kd.pair (Kd.int .i64) (Kd.int .i64))) (fun x : S103 => (x.f0, x.f1, x.f2))
theorem k103_heap : Kd.Heap k103 := Kd.heap_iso _ (Kd.heap_pair (Kd.heap_int .i64) (Kd.heap_pair (Kd.heap_int .i64) (Kd.heap_int .i64)))
theorem k103_open {w : World} {x : S103} {cs : List Value} (h : k103.K w x cs) : cs = [.int .i64 x.f0, .int .i64 x.f1, .int .i64 x.f2] := by
 obtain ⟨_, _, rfl, rfl, ⟨_, _, rfl, rfl, rfl⟩⟩ := h
 exact rfl
theorem k103_openM {w : World} {base : Nat} {ok : Nat → Prop} {x : S103} {cs : List Value} (h : k103.M w base ok x cs) : cs = [.int .i64 x.f0, .int .i64 x.f1, .int .i64 x.f2] := by
 obtain ⟨_, _, rfl, rfl, ⟨_, _, rfl, rfl, rfl⟩⟩ := h
 exact rfl
theorem k103_mk (w : World) (x : S103)  : k103.K w x [.int .i64 x.f0, .int .i64 x.f1, .int .i64 x.f2] := ⟨[.int .i64 x.f0], [.int .i64 x.f1, .int .i64 x.f2], rfl, rfl, ⟨[.int .i64 x.f1], [.int .i64 x.f2], rfl, rfl, rfl⟩⟩
theorem k103_mkM (w : World) (base : Nat) (ok : Nat → Prop) (x : S103)  : k103.M w base ok x [.int .i64 x.f0, .int .i64 x.f1, .int .i64 x.f2] := ⟨[.int .i64 x.f0], [.int .i64 x.f1, .int .i64 x.f2], rfl, rfl, ⟨[.int .i64 x.f1], [.int .i64 x.f2], rfl, rfl, rfl⟩⟩
theorem k103_mkF (W : World) (ok : Nat → Prop) (x : S103) : Kd.FK k103 W ok x [.int .i64 x.f0, .int .i64 x.f1, .int .i64 x.f2] := fun W2 _ => k103_mk W2 x
def rd_T103 (xs : List S103) (i : Int) : S103 := xs.getD i.toNat z103
theorem at_T103 {w : World} {A : Option Addr} {n : Nat} {xs : List S103} (h : Kd.C k103 w A n xs) (i : Int) (h0 : 0 ≤ i) (h1 : i < n) : ∃ ad , A = some ad ∧ w.cell? (ad.add (i.toNat * 3)) = some (.int .i64 (rd_T103 xs i).f0) ∧ w.cell? ⟨(ad.add (i.toNat * 3)).block, (ad.add (i.toNat * 3)).off + 1, none⟩ = some (.int .i64 (rd_T103 xs i).f1) ∧ w.cell? ⟨(ad.add (i.toNat * 3)).block, (ad.add (i.toNat * 3)).off + 2, none⟩ = some (.int .i64 (rd_T103 xs i).f2) := by
 obtain ⟨ad, c, e, _, hK, hc0⟩ := Kd.C_get h z103 i h0 h1
 have hc : ∀ j u, c[j]? = some u → w.cell? (ad.add (i.toNat * 3 + j)) = some u := hc0
 obtain rfl := k103_open hK
 exact ⟨ad, e, hc 0 _ rfl, by rw [← add_field _ _ 1 (by omega)]; exact hc 1 _ rfl, by rw [← add_field _ _ 2 (by omega)]; exact hc 2 _ rfl⟩

/-! #### struct type 43 -/
structure S43 where
 f0 : Int
 f1 : Int
 f2 : Int
def z43 : S43 := ⟨(0 : Int), (0 : Int), (0 : Int)⟩
def k43 : Kd S43 := Kd.iso (Kd.pair (Kd.int .i64) (Kd.pair (Kd.int .i64) (Kd.int .i64))) (fun x : S43 => (x.f0, x.f1, x.f2))
theorem k43_heap : Kd.Heap k43 := Kd.heap_iso _ (Kd.heap_pair (Kd.heap_int .i64) (Kd.heap_pair (Kd.heap_int .i64) (Kd.heap_int .i64)))
theorem k43_open {w : World} {x : S43} {cs : List Value} (h : k43.K w x cs) : cs = [.int .i64 x.f0, .int .i64 x.f1, .int .i64 x.f2] := by
 obtain ⟨_, _, rfl, rfl, ⟨_, _, rfl, rfl, rfl⟩⟩ := h
 exact rfl
theorem k43_openM {w : World} {base : Nat} {ok : Nat → Prop} {x : S43} {cs : List Value} (h : k43.M w base ok x cs) : cs = [.int .i64 x.f0, .int .i64 x.f1, .int .i64 x.f2] := by
 obtain ⟨_, _, rfl, rfl, ⟨_, _, rfl, rfl, rfl⟩⟩ := h
 exact rfl
theorem k43_mk (w : World) (x : S43)  : k43.K w x [.int .i64 x.f0, .int .i64 x.f1, .int .i64 x.f2] := ⟨[.int .i64 x.f0], [.int .i64 x.f1, .int .i64 x.f2], rfl, rfl, ⟨[.int .i64 x.f1], [.int .i64 x.f2], rfl, rfl, rfl⟩⟩
theorem k43_mkM (w : World) (base : Nat) (ok : Nat → Prop) (x : S43)  : k43.M w base ok x [.int .i64 x.f0, .int .i64 x.f1, .int .i64 x.f2] := ⟨[.int .i64 x.f0], [.int .i64 x.f1, .int .i64 x.f2], rfl, rfl, ⟨[.int .i64 x.f1], [.int .i64 x.f2], rfl, rfl, rfl⟩⟩
theorem k43_mkF (W : World) (ok : Nat → Prop) (x : S43) : Kd.FK k43 W ok x [.int .i64 x.f0, .int .i64 x.f1, .int .i64 x.f2] := fun W2 _ => k43_mk W2 x
def rd_T43 (xs : List S43) (i : Int) : S43 := xs.getD i.toNat z43
theorem at_T43 {w : World} {A : Option Addr} {n : Nat} {xs : List S43} (h : Kd.C k43 w A n xs) (i : Int) (h0 : 0 ≤ i) (h1 : i < n) : ∃ ad , A = some ad ∧ w.cell? (ad.add (i.toNat * 3)) = some (.int .i64 (rd_T43 xs i).f0) ∧ w.cell? ⟨(ad.add (i.toNat * 3)).block, (ad.add (i.toNat * 3)).off + 1, none⟩ = some (.int .i64 (rd_T43 xs i).f1) ∧ w.cell? ⟨(ad.add (i.toNat * 3)).block, (ad.add (i.toNat * 3)).off + 2, none⟩ = some (.int .i64 (rd_T43 xs i).f2) := by
 obtain ⟨ad, c, e, _, hK, hc0⟩ := Kd.C_get h z43 i h0 h1
 have hc : ∀ j u, c[j]? = some u → w.cell? (ad.add (i.toNat * 3 + j)) = some u := hc0
 obtain rfl := k43_open hK
 exact ⟨ad, e, hc 0 _ rfl, by rw [← add_field _ _ 1 (by omega)]; exact hc 1 _ rfl, by rw [← add_field _ _ 2 (by omega)]; exact hc 2 _ rfl⟩

/-! #### struct type 41 -/
structure S41 where
 f0 : Int
 f1 : Int
 f2 : Int
def z41 : S41 := ⟨(0 : Int), (0 : Int), (0 : Int)⟩
def k41 : Kd S41 := Kd.iso (Kd.pair (Kd.int .i64) (Kd.pair (Kd.int .i64) (Kd.int .i64))) (fun x : S41 => (x.f0, x.f1, x.f2))
theorem k41_heap : Kd.Heap k41 := Kd.heap_iso _ (Kd.heap_pair (Kd.heap_int .i64) (Kd.heap_pair (Kd.heap_int .i64) (Kd.heap_int .i64)))
theorem k41_open {w : World} {x : S41} {cs : List Value} (h : k41.K w x cs) : cs = [.int .i64 x.f0, .int .i64 x.f1, .int .i64 x.f2] := by
 obtain ⟨_, _, rfl, rfl, ⟨_, _, rfl, rfl, rfl⟩⟩ := h
 exact rfl
theorem k41_openM {w : World} {base : Nat} {ok : Nat → Prop} {x : S41} {cs : List Value} (h : k41.M w base ok x cs) : cs = [.int .i64 x.f0, .int .i64 x.f1, .int .i64 x.f2] := by
 obtain ⟨_, _, rfl, rfl, ⟨_, _, rfl, rfl, rfl⟩⟩ := h
 exact rfl
theorem k41_mk (w : World) (x : S41)  : k41.K w x [.int .i64 x.f0, .int .i64 x.f1, .int .i64 x.f2] := ⟨[.int .i64 x.f0], [.int .i64 x.f1, .int .i64 x.f2], rfl, rfl, ⟨[.int .i64 x.f1], [.int .i64 x.f2], rfl, rfl, rfl⟩⟩
theorem k41_mkM (w : World) (base : Nat) (ok : Nat → Prop) (x : S41)  : k41.M w base ok x [.int .i64 x.f0, .int .i64 x.f1, .int .i64 x.f2] := ⟨[.int .i64 x.f0], [.int .i64 x.f1, .int .i64 x.f2], rfl, rfl, ⟨[.int .i64 x.f1], [.int .i64 x.f2], rfl, rfl, rfl⟩⟩
theorem k41_mkF (W : World) (ok : Nat → Prop) (x : S41) : Kd.FK k41 W ok x [.int .i64 x.f0, .int .i64 x.f1, .int .i64 x.f2] := fun W2 _ => k41_mk W2 x
def rd_T41 (xs : List S41) (i : Int) : S41 := xs.getD i.toNat z41
theorem at_T41 {w : World} {A : Option Addr} {n : Nat} {xs : List S41} (h : Kd.C k41 w A n xs) (i : Int) (h0 : 0 ≤ i) (h1 : i < n) : ∃ ad , A = some ad ∧ w.cell? (ad.add (i.toNat * 3)) = some (.int .i64 (rd_T41 xs i).f0) ∧ w.cell? ⟨(ad.add (i.toNat * 3)).block, (ad.add (i.toNat * 3)).off + 1, none⟩ = some (.int .i64 (rd_T41 xs i).f1) ∧ w.cell? ⟨(ad.add (i.toNat * 3)).block, (ad.add (i.toNat * 3)).off + 2, none⟩ = some (.int .i64 (rd_T41 xs i).f2) := by
 obtain ⟨ad, c, e, _, hK, hc0⟩ := Kd.C_get h z41 i h0 h1
 have hc : ∀ j u, c[j]? = some u → w.cell? (ad.add (i.toNat * 3 + j)) = some u := hc0
 obtain rfl := k41_open hK
 exact ⟨ad, e, hc 0 _ rfl, by rw [← add_field _ _ 1 (by omega)]; exact hc 1 _ rfl, by rw [← add_field _ _ 2 (by omega)]; exact hc 2 _ rfl⟩

def rd_L4 (xs : List (List S43)) (i : Int) : (List S43) := xs.getD i.toNat ([] : List S43)
theorem at_L4 {w : World} {A : Option Addr} {n : Nat} {xs : List (List S43)} (h : Kd.C (Kd.slice 43 k43) w A n xs) (i : Int) (h0 : 0 ≤ i) (h1 : i < n) : ∃ ad A0 c0, A = some ad ∧ w.cell? (ad.add i.toNat) = some (.slice A0 (rd_L4 xs i).length c0) ∧ (rd_L4 xs i).length ≤ c0 ∧ k43.C w A0 (rd_L4 xs i).length (rd_L4 xs i) := by
 obtain ⟨ad, c, e, _, hK, hc0⟩ := Kd.C_get h ([] : List S43) i h0 h1
 have hc : ∀ j u, c[j]? = some u → w.cell? (ad.add (i.toNat * 1 + j)) = some u := hc0
 obtain ⟨A0, c0, rfl, l0, g0⟩ := hK
 exact ⟨ad, A0, c0, e, by have hq := hc 0 _ rfl; rwa [Nat.mul_one, Nat.add_zero] at hq, l0, g0⟩


theorem eqA43 (d : Nat) (w : World) (x0 y0 : Int) (x1 y1 : Int) (x2 y2 : Int) :
  (Op.equalIn (d + 2) 43 (.agg #[.int .i64 x0, .int .i64 x1, .int .i64 x2]) (.agg #[.int .i64 y0, .int .i64 y1, .int .i64 y2])).run Try.prog w = .ok (x0 == y0 && (x1 == y1 && (x2 == y2))) w := by
 refine eqA_of Try.underlying43 (by kernel_rfl) ?_
 refine eqf_cons (by rfl) (by go_simp; rfl) (by go_simp; rfl) (by go_simp) ?_
 refine eqf_cons (by rfl) (by go_simp; rfl) (by go_simp; rfl) (by go_simp) ?_
 exact eqf_last (by rfl) (by go_simp; rfl) (by go_simp; rfl) (by go_simp)

/-! ### zwords: function 0 -/
theorem zb {w w1 w2 : World} {g : Nat} {o : Obj} (h : Aside0 (w.heap[g]? = some o)) (hb : Below w1.heap.size w1 w2) (hp : w.heap[g]? = some o → w1.heap[g]? = some o := by intro h_; (with_reducible repeat (first | refine blk_drewN ?_ _ | refine blk_drew ?_ | refine blk_alloc ?_ _ | refine blk_far ?_ (Aside0.out zO0_2) _)); exact h_) : Aside0 (w2.heap[g]? = some o) := ⟨blk_below (hp h.out) hb⟩
theorem zk {w w1 : World} {g : Nat} {o : Obj} (h : Aside0 (w.heap[g]? = some o)) (hp : w.heap[g]? = some o → w1.heap[g]? = some o := by intro h_; (with_reducible repeat (first | refine blk_drewN ?_ _ | refine blk_drew ?_ | refine blk_alloc ?_ _ | refine blk_far ?_ (Aside0.out zO0_2) _)); exact h_) : Aside0 (w1.heap[g]? = some o) := ⟨hp h.out⟩
theorem zq {w w1 : World} {g : Nat} {o : Obj} (h : Aside0 (w.heap[g]? = some o)) (hp : w.heap[g]? = some o → w1.heap[g]? = some o := by intro h_; (with_reducible repeat (first | refine blk_drewN ?_ _ | refine blk_drew ?_ | refine blk_alloc ?_ _ | refine blk_far ?_ (Aside0.out zO0_2) _)); exact h_) : w1.heap[g]? = some o := hp h.out
theorem zl {w w1 : World} {g g2 : Nat} {o : Obj} (h : Aside0 (w.heap[g]? = some o)) (hg : g2 = w1.heap.size) (hp : w.heap[g]? = some o → w1.heap[g]? = some o := by intro h_; (with_reducible repeat (first | refine blk_drewN ?_ _ | refine blk_drew ?_ | refine blk_alloc ?_ _ | refine blk_far ?_ (Aside0.out zO0_2) _)); exact h_) : Aside0 (g ≠ g2) := ⟨by rw [hg]; exact Nat.ne_of_lt (blk_lt (hp h.out))⟩
theorem zr {w w1 : World} {g g2 : Nat} {o : Obj} (h : Aside0 (w.heap[g]? = some o)) (hg : g2 = w1.heap.size) (hp : w.heap[g]? = some o → w1.heap[g]? = some o := by intro h_; (with_reducible repeat (first | refine blk_drewN ?_ _ | refine blk_drew ?_ | refine blk_alloc ?_ _ | refine blk_far ?_ (Aside0.out zO0_2) _)); exact h_) : Aside0 (g2 ≠ g) := ⟨by rw [hg]; exact Nat.ne_of_gt (blk_lt (hp h.out))⟩
theorem zh {b w w1 w2 : World} (h : Aside0 (Below b.heap.size b w)) (hb : Below w1.heap.size w1 w2) (hp : Below b.heap.size b w → Below b.heap.size b w1 := by intro h_; repeat (first | (with_reducible first | exact h_ | apply below_alloc | apply pw_below_drewN | apply below_drew1 | refine below_set ?_ (Aside0.out zO0_2)) | exact h_)) : Aside0 (Below b.heap.size b w2) := ⟨below_step (hp h.out) hb⟩
theorem zi {b w w1 : World} (h : Aside0 (Below b.heap.size b w)) (hp : Below b.heap.size b w → Below b.heap.size b w1 := by intro h_; repeat (first | (with_reducible first | exact h_ | apply below_alloc | apply pw_below_drewN | apply below_drew1 | refine below_set ?_ (Aside0.out zO0_2)) | exact h_)) : Aside0 (Below b.heap.size b w1) := ⟨hp h.out⟩
theorem zg {b w w1 : World} {g : Nat} (h : Aside0 (Below b.heap.size b w)) (hg : g = w1.heap.size) (hp : Below b.heap.size b w → Below b.heap.size b w1 := by intro h_; repeat (first | (with_reducible first | exact h_ | apply below_alloc | apply pw_below_drewN | apply below_drew1 | refine below_set ?_ (Aside0.out zO0_2)) | exact h_)) : Aside0 (b.heap.size ≤ g) := ⟨by rw [hg]; exact below_size (hp h.out)⟩
theorem zo {α : Type} {d : Kd α} {e : Nat} {w w1 w2 : World} {b : Nat} {ok : Nat → Prop} {v : Value} {xs : List α} (h : Aside0 (d.R e w b ok v xs)) (hb : Below w1.heap.size w1 w2) (hp : d.R e w b ok v xs → d.R e w1 b ok v xs := by intro h_; (with_reducible repeat (first | apply Kd.R_alloc | apply Kd.R_drewN | apply Kd.R_drew)); exact h_) : Aside0 (d.R e w2 b ok v xs) := ⟨Kd.R_below (hp h.out) hb⟩
theorem zp {α : Type} {d : Kd α} {e : Nat} {w w1 : World} {b : Nat} {ok : Nat → Prop} {v : Value} {xs : List α} (h : Aside0 (d.R e w b ok v xs)) (hp : d.R e w b ok v xs → d.R e w1 b ok v xs := by intro h_; (with_reducible repeat (first | apply Kd.R_alloc | apply Kd.R_drewN | apply Kd.R_drew)); exact h_) : Aside0 (d.R e w1 b ok v xs) := ⟨hp h.out⟩
theorem zs {α : Type} {d : Kd α} {e : Nat} {w w1 : World} {b : Nat} {ok : Nat → Prop} {v : Value} {xs : List α} (h : Aside0 (d.R e w b ok v xs)) (hp : d.R e w b ok v xs → d.R e w1 b ok v xs := by intro h_; (with_reducible repeat (first | apply Kd.R_alloc | apply Kd.R_drewN | apply Kd.R_drew)); exact h_) : d.R e w1 b ok v xs := hp h.out
theorem zy {b w w1 : World} (h : Aside0 (Below b.heap.size b w)) (hp : Below b.heap.size b w → Below b.heap.size b w1 := by intro h_; repeat (first | (with_reducible first | exact h_ | apply below_alloc | apply pw_below_drewN | apply below_drew1 | refine below_set ?_ (Aside0.out zO0_2)) | exact h_)) : Below b.heap.size b w1 := hp h.out
theorem zt {p : Prop} (h : p := by first | rfl | (simp [errW_none, errW_some] <;> rfl) | (simp [*, errW_none, errW_some] <;> rfl)) : p := h
theorem zu {p : Prop} (h : p := by first | rfl | (simp; done) | (simp [*]; done)) : p := h
theorem zc1 {w : World} {g : Nat} {t : TypeId} {a : Value} (h : Aside0 (w.heap[g]? = some (.cells #[a] t (0, 0)))) : w.cell? ⟨g, 0, none⟩ = some a ∧ w.frozen? ⟨g, 0, none⟩ = false := ⟨(blk_cell h.out 0).trans rfl, blk_frozen h.out 0⟩
theorem zc2 {w : World} {g : Nat} {t : TypeId} {a0 a1 : Value} (h : Aside0 (w.heap[g]? = some (.cells #[a0, a1] t (0, 0)))) : w.cell? ⟨g, 0, none⟩ = some a0 ∧ w.cell? ⟨g, 1, none⟩ = some a1 ∧ w.frozen? ⟨g, 0, none⟩ = false ∧ w.frozen? ⟨g, 1, none⟩ = false := ⟨(blk_cell h.out 0).trans rfl, (blk_cell h.out 1).trans rfl, blk_frozen h.out 0, blk_frozen h.out 1⟩
theorem zc3 {w : World} {g : Nat} {t : TypeId} {a0 a1 a2 : Value} (h : Aside0 (w.heap[g]? = some (.cells #[a0, a1, a2] t (0, 0)))) : w.cell? ⟨g, 0, none⟩ = some a0 ∧ w.cell? ⟨g, 1, none⟩ = some a1 ∧ w.cell? ⟨g, 2, none⟩ = some a2 ∧ w.frozen? ⟨g, 0, none⟩ = false ∧ w.frozen? ⟨g, 1, none⟩ = false ∧ w.frozen? ⟨g, 2, none⟩ = false := ⟨(blk_cell h.out 0).trans rfl, (blk_cell h.out 1).trans rfl, (blk_cell h.out 2).trans rfl, blk_frozen h.out 0, blk_frozen h.out 1, blk_frozen h.out 2⟩
theorem zc4 {w : World} {g : Nat} {t : TypeId} {a0 a1 a2 a3 : Value} (h : Aside0 (w.heap[g]? = some (.cells #[a0, a1, a2, a3] t (0, 0)))) : w.cell? ⟨g, 0, none⟩ = some a0 ∧ w.cell? ⟨g, 1, none⟩ = some a1 ∧ w.cell? ⟨g, 2, none⟩ = some a2 ∧ w.cell? ⟨g, 3, none⟩ = some a3 ∧ w.frozen? ⟨g, 0, none⟩ = false ∧ w.frozen? ⟨g, 1, none⟩ = false ∧ w.frozen? ⟨g, 2, none⟩ = false ∧ w.frozen? ⟨g, 3, none⟩ = false := ⟨(blk_cell h.out 0).trans rfl, (blk_cell h.out 1).trans rfl, (blk_cell h.out 2).trans rfl, (blk_cell h.out 3).trans rfl, blk_frozen h.out 0, blk_frozen h.out 1, blk_frozen h.out 2, blk_frozen h.out 3⟩
theorem zc5 {w : World} {g : Nat} {t : TypeId} {a0 a1 a2 a3 a4 : Value} (h : Aside0 (w.heap[g]? = some (.cells #[a0, a1, a2, a3, a4] t (0, 0)))) : w.cell? ⟨g, 0, none⟩ = some a0 ∧ w.cell? ⟨g, 1, none⟩ = some a1 ∧ w.cell? ⟨g, 2, none⟩ = some a2 ∧ w.cell? ⟨g, 3, none⟩ = some a3 ∧ w.cell? ⟨g, 4, none⟩ = some a4 ∧ w.frozen? ⟨g, 0, none⟩ = false ∧ w.frozen? ⟨g, 1, none⟩ = false ∧ w.frozen? ⟨g, 2, none⟩ = false ∧ w.frozen? ⟨g, 3, none⟩ = false ∧ w.frozen? ⟨g, 4, none⟩ = false := ⟨(blk_cell h.out 0).trans rfl, (blk_cell h.out 1).trans rfl, (blk_cell h.out 2).trans rfl, (blk_cell h.out 3).trans rfl, (blk_cell h.out 4).trans rfl, blk_frozen h.out 0, blk_frozen h.out 1, blk_frozen h.out 2, blk_frozen h.out 3, blk_frozen h.out 4⟩
theorem zc6 {w : World} {g : Nat} {t : TypeId} {a0 a1 a2 a3 a4 a5 : Value} (h : Aside0 (w.heap[g]? = some (.cells #[a0, a1, a2, a3, a4, a5] t (0, 0)))) : w.cell? ⟨g, 0, none⟩ = some a0 ∧ w.cell? ⟨g, 1, none⟩ = some a1 ∧ w.cell? ⟨g, 2, none⟩ = some a2 ∧ w.cell? ⟨g, 3, none⟩ = some a3 ∧ w.cell? ⟨g, 4, none⟩ = some a4 ∧ w.cell? ⟨g, 5, none⟩ = some a5 ∧ w.frozen? ⟨g, 0, none⟩ = false ∧ w.frozen? ⟨g, 1, none⟩ = false ∧ w.frozen? ⟨g, 2, none⟩ = false ∧ w.frozen? ⟨g, 3, none⟩ = false ∧ w.frozen? ⟨g, 4, none⟩ = false ∧ w.frozen? ⟨g, 5, none⟩ = false := ⟨(blk_cell h.out 0).trans rfl, (blk_cell h.out 1).trans rfl, (blk_cell h.out 2).trans rfl, (blk_cell h.out 3).trans rfl, (blk_cell h.out 4).trans rfl, (blk_cell h.out 5).trans rfl, blk_frozen h.out 0, blk_frozen h.out 1, blk_frozen h.out 2, blk_frozen h.out 3, blk_frozen h.out 4, blk_frozen h.out 5⟩
theorem zE {P : Program} {ops : Array Oper} {rest : List Oper} {o : Oper} {a : Act} {Q : Exit → Act → World → Prop} {W : World} (N : Tmp) (cs : Array Value) (t : TypeId) (h : ∀ g, g = W.heap.size → ∀ w1, w1.heap[g]? = some (.cells cs t (0, 0)) → Below W.heap.size W w1 → wpList P ops Q rest (a.put o.dst (.pointer (some ⟨g, 0, none⟩))) w1) (hd : o.dst = some N := by rfl) (hgd : o.guard = none := by rfl) (hrun : (execOp a.eval o).run P W = .ok (.value (.pointer (some ⟨W.heap.size, 0, none⟩))) (W.alloc (.cells cs t (0, 0))) := by first | (go_simp; done) | (go_simp; rfl)) : wpList P ops Q (o :: rest) a W := box_event hgd hd hrun h
theorem zG {P : Program} {ops : Array Oper} {Q : Exit → Act → World → Prop} {rest : List Oper} {oi : Oper} {a : Act} {w : World} (N : Option Tmp) {f : FuncId} {fn : Func} {ao : Array Operand} {ts : Array TypeId} (hf : P.funcs[f]? = some fn) (args : Array Value) (h : Calls P f args w fun e w' => ∃ v, e = .returned v ∧ wpList P ops Q rest (a.put N v) w') (hd : oi.dst = N := by rfl) (hg : oi.guard = none := by rfl) (hname : (fn.name == "runtime.NumGoroutine") = false := by kernel_rfl) (hb : fn.body.isSome = true := by rfl) (hop : oi.op = .call { callee := .value (.func f), args := ao, argTypes := ts } := by rfl) (hargs : ao.map a.eval = args := by ((try simp only [List.map_toArray, List.map_cons, List.map_nil]); first | done | rfl | (simp only [List.length_drop, List.length_take]; rfl))) : wpList P ops Q (oi :: rest) a w := goesL_ N hd hg hf hname hb args hop hargs h
theorem zw_set {w : World} {g : Nat} {t : TypeId} {cs : Array Value} {i : Nat} {u : Value} (zw_1 : w.heap[g]? = some (.cells cs t (0, 0))) : (w.setCell ⟨g, i, none⟩ u).heap[g]? = some (.cells (cs.setIfInBounds i u) t (0, 0)) := blk_set zw_1 i u
theorem zw_far {w : World} {g : Nat} {t : TypeId} {cs : Array Value} {p : Addr} {u : Value} (zw_2 : w.heap[g]? = some (.cells cs t (0, 0))) (zw_3 : Aside0 (g ≠ p.block)) : (w.setCell p u).heap[g]? = some (.cells cs t (0, 0)) := blk_far zw_2 zw_3.out u
theorem zw {w w1 : World} {g : Nat} {t : TypeId} {cs cs1 cs2 : Array Value} (h : Aside0 (w.heap[g]? = some (.cells cs t (0, 0)))) (hp : w.heap[g]? = some (.cells cs t (0, 0)) → w1.heap[g]? = some (.cells cs1 t (0, 0)) := by (intro h_; (with_reducible repeat (first | refine blk_drewN ?_ _ | refine blk_drew ?_ | refine blk_alloc ?_ _ | apply zw_set | (apply zw_far; rotate_left; assumption))); exact h_)) (he : cs1 = cs2 := by rfl) : w1.heap[g]? = some (.cells cs2 t (0, 0)) := he ▸ hp h.out
theorem zKe {w w1 w2 : World} {g : Nat} {row : Option Nat} (h : Aside0 (KeepBut w w1 g row)) (hp : KeepBut w w1 g row → KeepBut w w2 g row := by (intro h_; repeat (first | (with_reducible first | exact h_ | apply KeepBut.set_ | apply keep_drewN | apply keep_drew | apply keep_alloc | refine keep_far ?_ (Aside0.out zO0_2) _) | exact h_))) : KeepBut w w2 g row := hp h.out
theorem zKb {w w1 w2 w3 : World} {g : Nat} {row : Option Nat} (h : Aside0 (KeepBut w w1 g row)) (hb : Below w2.heap.size w2 w3) (hp : KeepBut w w1 g row → KeepBut w w2 g row := by (intro h_; repeat (first | (with_reducible first | exact h_ | apply KeepBut.set_ | apply keep_drewN | apply keep_drew | apply keep_alloc | refine keep_far ?_ (Aside0.out zO0_2) _) | exact h_))) : Aside0 (KeepBut w w3 g row) := ⟨KeepBut.trans (hp h.out) (KeepBut.of_below hb g row) (.inl rfl)⟩
theorem zKt {w w1 w2 w3 : World} {g : Nat} {row : Option Nat} (h : Aside0 (KeepBut w w1 g row)) (hk : KeepBut w2 w3 g row) (hp : KeepBut w w1 g row → KeepBut w w2 g row := by (intro h_; repeat (first | (with_reducible first | exact h_ | apply KeepBut.set_ | apply keep_drewN | apply keep_drew | apply keep_alloc | refine keep_far ?_ (Aside0.out zO0_2) _) | exact h_))) : Aside0 (KeepBut w w3 g row) := ⟨KeepBut.trans (hp h.out) hk (.inl rfl)⟩
theorem zKg {w w1 w2 : World} {g g2 : Nat} {row : Option Nat} (h : Aside0 (KeepBut w w1 g row)) (hg : g2 = w2.heap.size) (hp : KeepBut w w1 g row → KeepBut w w2 g row := by (intro h_; repeat (first | (with_reducible first | exact h_ | apply KeepBut.set_ | apply keep_drewN | apply keep_drew | apply keep_alloc | refine keep_far ?_ (Aside0.out zO0_2) _) | exact h_))) : Aside0 (w.heap.size ≤ g2) := ⟨by rw [hg]; exact keep_size (hp h.out)⟩
theorem zKB {w w1 w2 : World} {g g' : Nat} {row : Option Nat} {o : Obj} (h : Aside0 (w.heap[g']? = some o)) (hk : KeepBut w1 w2 g row) (hne : Aside0 (g' ≠ g) := by assumption) (hr : some g' ≠ row := by simp) (hp : w.heap[g']? = some o → w1.heap[g']? = some o := by intro h_; (with_reducible repeat (first | refine blk_drewN ?_ _ | refine blk_drew ?_ | refine blk_alloc ?_ _ | refine blk_far ?_ (Aside0.out zO0_2) _)); exact h_) : Aside0 (w2.heap[g']? = some o) := ⟨KeepBut.blk hk (hp h.out) hne.out hr⟩



/-! ### zregs: function 0 -/
theorem zA {P : Program} {ops : Array Oper} {Q : Exit → Act → World → Prop} {md : Region.Mode} {S : World → Prop} {ds : List Nat} {T : Bool × List (List Nat × List Nat)} (i : Nat) (N : Nat) {oi : Oper} {v : Value} {fuel : Nat} {l l' : Array Bool} {a a' : Act} {w : World} (hT : Aside0 (rtab md ops = T)) (h : wpAnyLast P md ops Q S ds fuel l' a' w) (hi : ops[i]? = some oi := by rfl) (hN : oi.dst = some N := by rfl) (hl : l.setIfInBounds i true = l' := by (simp only [List.setIfInBounds_toArray, List.set_cons_zero, List.set_cons_succ]; rfl)) (hc : anyT T l.toList l'.toList i = true := by kernel_rfl) (hQ : ∀ c a w, Q (.panic c) (a.put oi.dst v) w → Q (.panic c) a w := by exact fun _ _ _ h => h) (hw : Region.wanted oi (yielded ops a.tmps) = true := by rfl) (hy : ∀ w, (execOp a.eval oi).run P w = .ok (.value v) w := by (intro w'; go_simp; with_reducible rfl)) (ha : a.put (some N) v = a' := by (simp only [Act.put, List.setIfInBounds_toArray, List.set_cons_zero, List.set_cons_succ, i64_w, i32_w]; rfl)) : wpAnyLast P md ops Q S ds (fuel + 1) l a w := pure_ l' hi hN (any_of hT.out hc) hQ (Or.inl ⟨hw, hy⟩) ha h
theorem zA0 {P : Program} {ops : Array Oper} {Q : Exit → Act → World → Prop} {md : Region.Mode} {S : World → Prop} {ds : List Nat} (i : Nat) (N : Nat) {oi : Oper} {v : Value} {fuel : Nat} {l l' : Array Bool} {a a' : Act} {w : World} (h : wpAnyLast P md ops Q S ds fuel l' a' w) (hi : ops[i]? = some oi := by rfl) (hN : oi.dst = some N := by rfl) (hl : l.setIfInBounds i true = l' := by (simp only [List.setIfInBounds_toArray, List.set_cons_zero, List.set_cons_succ]; rfl)) (hc : anyB md ops l l' i = true := by kernel_rfl) (hQ : ∀ c a w, Q (.panic c) (a.put oi.dst v) w → Q (.panic c) a w := by exact fun _ _ _ h => h) (hw : Region.wanted oi (yielded ops a.tmps) = true := by rfl) (hy : ∀ w, (execOp a.eval oi).run P w = .ok (.value v) w := by (intro w'; go_simp; with_reducible rfl)) (ha : a.put (some N) v = a' := by (simp only [Act.put, List.setIfInBounds_toArray, List.set_cons_zero, List.set_cons_succ, i64_w, i32_w]; rfl)) : wpAnyLast P md ops Q S ds (fuel + 1) l a w := pure_ l' hi hN hc hQ (Or.inl ⟨hw, hy⟩) ha h
theorem zAu {P : Program} {ops : Array Oper} {Q : Exit → Act → World → Prop} {md : Region.Mode} {S : World → Prop} {ds : List Nat} {T : Bool × List (List Nat × List Nat)} (i : Nat) (N : Nat) {oi : Oper} {fuel : Nat} {l l' : Array Bool} {a a' : Act} {w : World} (hT : Aside0 (rtab md ops = T)) (h : wpAnyLast P md ops Q S ds fuel l' a' w) (hi : ops[i]? = some oi := by rfl) (hN : oi.dst = some N := by rfl) (hl : l.setIfInBounds i true = l' := by (simp only [List.setIfInBounds_toArray, List.set_cons_zero, List.set_cons_succ]; rfl)) (hc : anyT T l.toList l'.toList i = true := by kernel_rfl) (hQ : ∀ c a w, Q (.panic c) (a.put oi.dst undef) w → Q (.panic c) a w := by exact fun _ _ _ h => h) (hw : Region.wanted oi (yielded ops a.tmps) = false := by rfl) (ha : a.put (some N) undef = a' := by (simp only [Act.put, List.setIfInBounds_toArray, List.set_cons_zero, List.set_cons_succ, i64_w, i32_w]; rfl)) : wpAnyLast P md ops Q S ds (fuel + 1) l a w := pure_ (v := undef) l' hi hN (any_of hT.out hc) hQ (Or.inr ⟨hw, rfl⟩) ha h
theorem zT {P : Program} {ops : Array Oper} {Q : Exit → Act → World → Prop} {md : Region.Mode} {S : World → Prop} {ds : List Nat} {T : Bool × List (List Nat × List Nat)} {B : List Nat} (i : Nat) (N : Nat) {oi : Oper} {v : Value} {fuel : Nat} {l l' : Array Bool} {a a' : Act} {w : World} (hT : Aside0 (rtab md ops = T)) (hB : Aside0 (waitsOk T.2 B = true)) (hS : S w) (h : wpAnyLast P md ops Q S ds fuel l' a' w) (hi : ops[i]? = some oi := by rfl) (hN : oi.dst = some N := by rfl) (hl : l.setIfInBounds i true = l' := by (simp only [List.setIfInBounds_toArray, List.set_cons_zero, List.set_cons_succ]; rfl)) (hc : takeW T B ds l.toList l'.toList i = true := by kernel_rfl) (hQ : ∀ c a w, Q (.panic c) (a.put oi.dst v) w → Q (.panic c) a w := by exact fun _ _ _ h => h) (hw : Region.wanted oi (yielded ops a.tmps) = true := by rfl) (hy : ∀ w, S w → (execOp a.eval oi).run P w = .ok (.value v) w := by (intro w' hs_; (repeat (have hs1_ := hs_.1; replace hs_ := hs_.2)); first | (go_simp; with_reducible rfl) | (simp only [Int.toNat_natCast] at *; go_simp; with_reducible rfl))) (ha : a.put (some N) v = a' := by (simp only [Act.put, List.setIfInBounds_toArray, List.set_cons_zero, List.set_cons_succ, i64_w, i32_w]; rfl)) : wpAnyLast P md ops Q S ds (fuel + 1) l a w := take_ l' hi hN (take_ofW hT.out hB.out hc) hQ (Or.inl ⟨hw, hy⟩) hS ha h
theorem zT0 {P : Program} {ops : Array Oper} {Q : Exit → Act → World → Prop} {md : Region.Mode} {S : World → Prop} {ds : List Nat} (i : Nat) (N : Nat) {oi : Oper} {v : Value} {fuel : Nat} {l l' : Array Bool} {a a' : Act} {w : World} (hS : S w) (h : wpAnyLast P md ops Q S ds fuel l' a' w) (hi : ops[i]? = some oi := by rfl) (hN : oi.dst = some N := by rfl) (hl : l.setIfInBounds i true = l' := by (simp only [List.setIfInBounds_toArray, List.set_cons_zero, List.set_cons_succ]; rfl)) (hc : takeB md ops ds l l' i = true := by kernel_rfl) (hQ : ∀ c a w, Q (.panic c) (a.put oi.dst v) w → Q (.panic c) a w := by exact fun _ _ _ h => h) (hw : Region.wanted oi (yielded ops a.tmps) = true := by rfl) (hy : ∀ w, S w → (execOp a.eval oi).run P w = .ok (.value v) w := by (intro w' hs_; (repeat (have hs1_ := hs_.1; replace hs_ := hs_.2)); first | (go_simp; with_reducible rfl) | (simp only [Int.toNat_natCast] at *; go_simp; with_reducible rfl))) (ha : a.put (some N) v = a' := by (simp only [Act.put, List.setIfInBounds_toArray, List.set_cons_zero, List.set_cons_succ, i64_w, i32_w]; rfl)) : wpAnyLast P md ops Q S ds (fuel + 1) l a w := take_ l' hi hN hc hQ (Or.inl ⟨hw, hy⟩) hS ha h
theorem zO {P : Program} {ops : Array Oper} {Q : Exit → Act → World → Prop} {md : Region.Mode} {S : World → Prop} {ds : List Nat} {T : Bool × List (List Nat × List Nat)} (i : Nat) (N : Option Tmp) {oi : Oper} {fuel : Nat} {l l' : Array Bool} {a : Act} {w : World} (hT : Aside0 (rtab md ops = T)) (h : ∀ K : Act → World → Prop, Shut (∀ a' w', S w' → (S w' → wpAnyLast P md ops Q S ds fuel l' a' w') → K a' w') → if Region.wanted oi (yielded ops a.tmps) = true then Oper.wp P oi a w K Q else K (a.put N undef) w)
  (hi : ops[i]? = some oi := by rfl) (hN : oi.dst = N := by rfl) (hl : l.setIfInBounds i true = l' := by (simp only [List.setIfInBounds_toArray, List.set_cons_zero, List.set_cons_succ]; rfl)) (hc : (readyT T.2 l.toList == [i] && l.toList.set i true == l'.toList) = true := by kernel_rfl) (hd : i ∉ ds := by decide) : wpAnyLast P md ops Q S ds (fuel + 1) l a w := one_ l' hi hN (one_of hT.out hc) hd h
theorem zN {P : Program} {ops : Array Oper} {Q : Exit → Act → World → Prop} {md : Region.Mode} {S : World → Prop} {ds : List Nat} (n : Nat) {fuel : Nat} {l : Array Bool} {a a' : Act} {w : World} {v : Value} (h : wpAnyLast P md ops Q S ds fuel l a' w) (ha : a.put (some n) v = a' := by (simp only [Act.put, List.setIfInBounds_toArray, List.set_cons_zero, List.set_cons_succ, i64_w, i32_w]; rfl)) : wpAnyLast P md ops Q S ds fuel l (a.put (some n) v) w := norm_ ha h



/-! ### spec_l1In: function 63 -/
def spec_l1In.f (a0 : Int) (a1 : Int) (a2 : Int) : Option (Bool) := if a0 ≥ a1 then (some (decide (a0 ≤ a2))) else (some false)
set_option maxHeartbeats 8000000 in
set_option maxRecDepth 100000 in
theorem spec_l1In.calls (a0 : Int) (a1 : Int) (a2 : Int) (r : Bool) (w : World) (h : spec_l1In.f a0 a1 a2 = some r) :
  Calls Try.prog 63 #[.int .i64 a0, .int .i64 a1, .int .i64 a2] w fun e w' => e = .returned (.bool r) ∧ Drawn0 w w' := by
 have H : (if a0 ≥ a1 then (some (decide (a0 ≤ a2))) else (some false)) = some r := h
 clear h
 by_cases c4 : a0 ≥ a1
 ·rw [if_pos c4] at H
  have c4b0 : decide (a1 ≤ a0) = true := decide_eq_true c4; clear c4
  obtain rfl := Option.some.inj H
  go_enter Try.func63, Try.ntmps63
  go_wp2
  go_ret
  exact ⟨by first | rfl | (simp; done) | (simp [*]; done), by repeat (first | exact Drawn0.refl _ | apply Drawn0.step)⟩
 ·rw [if_neg c4] at H
  have c4b0 : decide (a1 ≤ a0) = false := decide_eq_false c4; clear c4
  obtain rfl := Option.some.inj H
  go_enter Try.func63, Try.ntmps63
  go_wp2
  go_ret
  exact ⟨by first | rfl | (simp; done) | (simp [*]; done), by repeat (first | exact Drawn0.refl _ | apply Drawn0.step)⟩


/-! ### spec_pzClue: function 75 -/
mutual
def spec_pzClue.j0 : Nat → Bool → Int → Int → Int → Option (Bool)
 | 0, _, _, _, _ => none
 | k + 1, x12, x104000, x104001, x104002 => if x12 = true then (some false) else (if x104000 = 0 then (spec_pzClue.j1 k x104000 (x104000 == 0) x104000 x104001 x104002) else (spec_pzClue.j1 k x104000 (x104000 == 5) x104000 x104001 x104002))
def spec_pzClue.j1 : Nat → Int → Bool → Int → Int → Int → Option (Bool)
 | 0, _, _, _, _, _ => none
 | k + 1, x14, x15, x104000, x104001, x104002 => if x15 = true then (some (x104001 == 0)) else (if x14 = 1 then (if x104001 = 0 then (some (decide (x104002 < 2))) else (some false)) else (if x14 = 2 then (spec_pzClue.j2 k x14 (x14 == 2) x104000 x104001 x104002) else (spec_pzClue.j2 k x14 (x14 == 4) x104000 x104001 x104002)))
def spec_pzClue.j2 : Nat → Int → Bool → Int → Int → Int → Option (Bool)
 | 0, _, _, _, _, _ => none
 | k + 1, x14, x31, x104000, x104001, x104002 => if x31 = true then (some (decide (x104002 > 0))) else (if x14 = 3 then (if x104001 < 2 then (some (decide (x104002 < 2))) else (some false)) else (some false))
end
def spec_pzClue.f (k : Nat) (a0_0 : Int) (a0_1 : Int) (a0_2 : Int) : Option (Bool) := (spec_l1In.f a0_1 0 200).bind fun t104 => (if t104 = true then ((spec_l1In.f a0_2 0 200).bind fun t105 => (spec_pzClue.j0 k (!t105) a0_0 a0_1 a0_2)) else (spec_pzClue.j0 k true a0_0 a0_1 a0_2))
set_option maxHeartbeats 8000000 in
set_option maxRecDepth 100000 in
theorem spec_pzClue.calls (k : Nat) (a0_0 : Int) (a0_1 : Int) (a0_2 : Int) (r : Bool) (w : World) (h : spec_pzClue.f k a0_0 a0_1 a0_2 = some r) :
  Calls Try.prog 75 #[.agg #[.int .i64 a0_0, .int .i64 a0_1, .int .i64 a0_2]] w fun e w' => e = .returned (.bool r) ∧ Below w.heap.size w w' := by
 have hu43 := Try.underlying43
 have HB := Aside0.mk (Below.refl w.heap.size w)
 have H : ((spec_l1In.f a0_1 0 200).bind fun t104 => (if t104 = true then ((spec_l1In.f a0_2 0 200).bind fun t105 => (spec_pzClue.j0 k (!t105) a0_0 a0_1 a0_2)) else (spec_pzClue.j0 k true a0_0 a0_1 a0_2))) = some r := h
 clear h; have HC2 := Aside0.mk H; clear H
 go_enter Try.func75, Try.ntmps75
 go_upto_region 1 with (first | ((with_reducible refine gate_dst (N := 1) rfl ?_); refine zE 1 #[.int .i64 a0_0, .int .i64 a0_1, .int .i64 a0_2] 43 ?_; intro gb103 hg w3 hbox hb; have BK103 := Aside0.mk (hbox); have GW103 := zg HB hg; have GE103 := GW103; replace HB := zh HB hb; clear hb hbox hg))
 (try simp only [Act.put, List.setIfInBounds_toArray, List.set_cons_zero, List.set_cons_succ])
 go_cut [12] (fun v12 wc => ∃ (kq : Nat) (x12_1 : Bool), v12 = .bool x12_1 ∧ Aside0 (spec_pzClue.j0 kq x12_1 a0_0 a0_1 a0_2 = some r) ∧ Aside0 (kq ≤ k) ∧ Aside0 (wc.heap[gb103]? = some (.cells #[.int .i64 a0_0, .int .i64 a0_1, .int .i64 a0_2] 43 (0, 0))) ∧ Aside0 (Below w.heap.size w wc))
 case first =>
  have H := HC2.out; clear HC2; replace H := Option.bind_eq_some_iff.mp H; obtain ⟨t104, A40, H⟩ := H; (try dsimp only at H); have A4 := Aside0.mk A40; clear A40
  by_cases c5 : t104 = true
  ·subst c5
   rw [if_pos rfl] at H; replace H := Option.bind_eq_some_iff.mp H; obtain ⟨t105, A60, H⟩ := H
   replace H : (spec_pzClue.j0 k (!t105) a0_0 a0_1 a0_2) = some r := H
   have A6 := Aside0.mk A60; clear A60; have H' := Aside0.mk H; clear H
   obtain ⟨_, _, _, _, _, _⟩ := zc3 BK103
   go_wp2_with (first | ((with_reducible refine gate_callee (f := 63) rfl ?_); refine zG (some 5) Try.func63 #[.int .i64 a0_1, .int .i64 0, .int .i64 200] ?_; (with_reducible refine (spec_l1In.calls a0_1 0 200 true _ A4.out).mono ?_); rintro e w' ⟨rfl, ⟨nd, rfl⟩⟩; refine ⟨_, rfl, ?_⟩) | (go_at_call 63; (with_reducible refine (spec_l1In.calls a0_2 0 200 t105 _ A6.out).mono ?_); rintro e w' ⟨rfl, ⟨nd, rfl⟩⟩))
   go_meet
   case rel => exact ⟨_, (!t105), zu, H', ⟨by first | omega | exact Nat.le_refl _⟩, zk BK103, ⟨zy HB⟩⟩
  ·replace c5 := Bool.eq_false_iff.mpr c5
   subst c5; rw [if_neg (show ¬ (false = true) by decide)] at H; have H' := Aside0.mk H; clear H
   obtain ⟨_, _, _, _, _, _⟩ := zc3 BK103
   go_wp2_with (first | ((with_reducible refine gate_callee (f := 63) rfl ?_); refine zG (some 5) Try.func63 #[.int .i64 a0_1, .int .i64 0, .int .i64 200] ?_; (with_reducible refine (spec_l1In.calls a0_1 0 200 false _ A4.out).mono ?_); rintro e w' ⟨rfl, ⟨nd, rfl⟩⟩; refine ⟨_, rfl, ?_⟩))
   go_meet
   case rel => exact ⟨_, (true), zu, H', ⟨by first | omega | exact Nat.le_refl _⟩, zk BK103, ⟨zy HB⟩⟩
 case rest =>
  clear HC2
  obtain ⟨kq, x12_1, rfl, HA, HJ1, BK103, HB⟩ := hcut
  cases kq with
  | zero => exact absurd HA.out (by simp [spec_pzClue.j0])
  | succ kj1 =>
   have H := HA.out; clear HA; simp only [spec_pzClue.j0] at H
   by_cases c9 : x12_1 = true
   ·subst c9
    rw [if_pos rfl] at H
    obtain rfl := Option.some.inj H
    go_wp2
    go_ret
    exact ⟨zt, zy HB⟩
   ·replace c9 := Bool.eq_false_iff.mpr c9
    subst c9; rw [if_neg (show ¬ (false = true) by decide)] at H; have HC10 := Aside0.mk H; clear H
    obtain ⟨_, _, _, _, _, _⟩ := zc3 BK103
    go_upto_if 15 with (fail)
    go_cut [15] (fun v15 wc => ∃ (kq : Nat) (x15_9 : Bool), v15 = .bool x15_9 ∧ Aside0 (spec_pzClue.j1 kq a0_0 x15_9 a0_0 a0_1 a0_2 = some r) ∧ Aside0 (kq ≤ kj1) ∧ Aside0 (wc.heap[gb103]? = some (.cells #[.int .i64 a0_0, .int .i64 a0_1, .int .i64 a0_2] 43 (0, 0))) ∧ Aside0 (Below w.heap.size w wc))
    case first =>
     have H := HC10.out; clear HC10
     by_cases c12 : a0_0 = 0
     ·rw [if_pos c12] at H
      have c12b0 : (a0_0 == 0) = true := beq_iff_eq.mpr c12
      have c12b1 : (a0_0 != 0) = false := bne_eq_false_iff_eq.mpr c12
      clear c12
      (first | rw [c12b0] | (simp only [i64_w, i32_w]; rw [c12b0]) | skip)
      have H' := Aside0.mk H; clear H
      go_wp2
      go_meet
      case rel => exact ⟨_, ((a0_0 == 0)), zu, H', ⟨by have := HJ1.out; first | omega | exact Nat.le_refl _⟩, zk BK103, ⟨zy HB⟩⟩
     ·rw [if_neg c12] at H
      have c12b0 : (a0_0 == 0) = false := beq_eq_false_iff_ne.mpr c12
      have c12b1 : (a0_0 != 0) = true := bne_iff_ne.mpr c12
      (first | rw [c12b0] | (simp only [i64_w, i32_w]; rw [c12b0]) | skip)
      have H' := Aside0.mk H; clear H
      go_wp2
      go_meet
      case rel => exact ⟨_, ((a0_0 == 5)), zu, H', ⟨by have := HJ1.out; first | omega | exact Nat.le_refl _⟩, zk BK103, ⟨zy HB⟩⟩
    case rest =>
     clear HC10
     obtain ⟨kq, x15_9, rfl, HA, HJ9, BK103, HB⟩ := hcut
     cases kq with
     | zero => exact absurd HA.out (by simp [spec_pzClue.j1])
     | succ kj9 =>
      have H := HA.out; clear HA; simp only [spec_pzClue.j1] at H
      by_cases c13 : x15_9 = true
      ·subst c13
       rw [if_pos rfl] at H
       obtain rfl := Option.some.inj H
       obtain ⟨_, _, _, _, _, _⟩ := zc3 BK103
       go_wp2
       go_ret
       exact ⟨zt, zy HB⟩
      ·replace c13 := Bool.eq_false_iff.mpr c13
       subst c13; rw [if_neg (show ¬ (false = true) by decide)] at H
       by_cases c15 : a0_0 = 1
       ·rw [if_pos c15] at H
        have c15b0 : (a0_0 == 1) = true := beq_iff_eq.mpr c15
        have c15b1 : (a0_0 != 1) = false := bne_eq_false_iff_eq.mpr c15
        clear c15
        by_cases c16 : a0_1 = 0
        ·rw [if_pos c16] at H
         have c16b0 : (a0_1 == 0) = true := beq_iff_eq.mpr c16
         have c16b1 : (a0_1 != 0) = false := bne_eq_false_iff_eq.mpr c16
         clear c16
         obtain rfl := Option.some.inj H
         obtain ⟨_, _, _, _, _, _⟩ := zc3 BK103
         go_wp2
         go_ret
         exact ⟨zt, zy HB⟩
        ·rw [if_neg c16] at H
         have c16b0 : (a0_1 == 0) = false := beq_eq_false_iff_ne.mpr c16
         have c16b1 : (a0_1 != 0) = true := bne_iff_ne.mpr c16
         obtain rfl := Option.some.inj H
         obtain ⟨_, _, _, _, _, _⟩ := zc3 BK103
         go_wp2
         go_ret
         exact ⟨zt, zy HB⟩
       ·rw [if_neg c15] at H
        have c15b0 : (a0_0 == 1) = false := beq_eq_false_iff_ne.mpr c15
        have c15b1 : (a0_0 != 1) = true := bne_iff_ne.mpr c15
        have HC19 := Aside0.mk H; clear H
        go_upto_if 31 with (fail)
        go_cut [31] (fun v31 wc => ∃ (kq : Nat) (x31_18 : Bool), v31 = .bool x31_18 ∧ Aside0 (spec_pzClue.j2 kq a0_0 x31_18 a0_0 a0_1 a0_2 = some r) ∧ Aside0 (kq ≤ kj9) ∧ Aside0 (wc.heap[gb103]? = some (.cells #[.int .i64 a0_0, .int .i64 a0_1, .int .i64 a0_2] 43 (0, 0))) ∧ Aside0 (Below w.heap.size w wc))
        case first =>
         have H := HC19.out; clear HC19
         by_cases c20 : a0_0 = 2
         ·rw [if_pos c20] at H
          have c20b0 : (a0_0 == 2) = true := beq_iff_eq.mpr c20
          have c20b1 : (a0_0 != 2) = false := bne_eq_false_iff_eq.mpr c20
          clear c20
          (first | rw [c20b0] | (simp only [i64_w, i32_w]; rw [c20b0]) | skip)
          have H' := Aside0.mk H; clear H
          go_wp2
          go_meet
          case rel => exact ⟨_, ((a0_0 == 2)), zu, H', ⟨by have := HJ1.out; have := HJ9.out; first | omega | exact Nat.le_refl _⟩, zk BK103, ⟨zy HB⟩⟩
         ·rw [if_neg c20] at H
          have c20b0 : (a0_0 == 2) = false := beq_eq_false_iff_ne.mpr c20
          have c20b1 : (a0_0 != 2) = true := bne_iff_ne.mpr c20
          (first | rw [c20b0] | (simp only [i64_w, i32_w]; rw [c20b0]) | skip)
          have H' := Aside0.mk H; clear H
          go_wp2
          go_meet
          case rel => exact ⟨_, ((a0_0 == 4)), zu, H', ⟨by have := HJ1.out; have := HJ9.out; first | omega | exact Nat.le_refl _⟩, zk BK103, ⟨zy HB⟩⟩
        case rest =>
         clear HC19
         obtain ⟨kq, x31_18, rfl, HA, HJ18, BK103, HB⟩ := hcut
         cases kq with
         | zero => exact absurd HA.out (by simp [spec_pzClue.j2])
         | succ kj18 =>
          have H := HA.out; clear HA; simp only [spec_pzClue.j2] at H
          by_cases c21 : x31_18 = true
          ·subst c21
           rw [if_pos rfl] at H
           obtain rfl := Option.some.inj H
           obtain ⟨_, _, _, _, _, _⟩ := zc3 BK103
           go_wp2
           go_ret
           exact ⟨zt, zy HB⟩
          ·replace c21 := Bool.eq_false_iff.mpr c21
           subst c21; rw [if_neg (show ¬ (false = true) by decide)] at H
           by_cases c23 : a0_0 = 3
           ·rw [if_pos c23] at H
            have c23b0 : (a0_0 == 3) = true := beq_iff_eq.mpr c23
            have c23b1 : (a0_0 != 3) = false := bne_eq_false_iff_eq.mpr c23
            clear c23
            by_cases c24 : a0_1 < 2
            ·rw [if_pos c24] at H
             have c24b0 : decide (a0_1 < 2) = true := decide_eq_true c24; clear c24
             obtain rfl := Option.some.inj H
             obtain ⟨_, _, _, _, _, _⟩ := zc3 BK103
             go_wp2
             go_ret
             exact ⟨zt, zy HB⟩
            ·rw [if_neg c24] at H
             have c24b0 : decide (a0_1 < 2) = false := decide_eq_false c24; clear c24
             obtain rfl := Option.some.inj H
             obtain ⟨_, _, _, _, _, _⟩ := zc3 BK103
             go_wp2
             go_ret
             exact ⟨zt, zy HB⟩
           ·rw [if_neg c23] at H
            have c23b0 : (a0_0 == 3) = false := beq_eq_false_iff_ne.mpr c23
            have c23b1 : (a0_0 != 3) = true := bne_iff_ne.mpr c23
            obtain rfl := Option.some.inj H
            go_wp2
            go_ret
            exact ⟨zt, zy HB⟩


/-! ### spec_pzWide: function 77 -/
def spec_pzWide.f (a0 : Int) : Option (Bool) := (spec_l1In.f a0 1 12).bind fun t106 => (some t106)
set_option maxHeartbeats 8000000 in
set_option maxRecDepth 100000 in
theorem spec_pzWide.calls (a0 : Int) (r : Bool) (w : World) (h : spec_pzWide.f a0 = some r) :
  Calls Try.prog 77 #[.int .i64 a0] w fun e w' => e = .returned (.bool r) ∧ Drawn0 w w' := by
 have H : ((spec_l1In.f a0 1 12).bind fun t106 => (some t106)) = some r := h
 clear h; replace H := Option.bind_eq_some_iff.mp H; obtain ⟨t106, A20, H⟩ := H
 replace H : (some t106) = some r := H
 have A2 := Aside0.mk A20; clear A20
 obtain rfl := Option.some.inj H
 go_enter Try.func77, Try.ntmps77
 go_wp2_with (first | ((with_reducible refine gate_callee (f := 63) rfl ?_); refine zG (some 4) Try.func63 #[.int .i64 a0, .int .i64 1, .int .i64 12] ?_; (with_reducible refine (spec_l1In.calls a0 1 12 t106 _ A2.out).mono ?_); rintro e w' ⟨rfl, ⟨nd, rfl⟩⟩; refine ⟨_, rfl, ?_⟩))
 go_ret
 exact ⟨by first | rfl | (simp; done) | (simp [*]; done), by repeat (first | exact Drawn0.refl _ | apply Drawn0.step)⟩


/-! ### spec_pzGood: function 45 -/
mutual
def spec_pzGood.j0 : Nat → Bool → Int → List (S43) → Option (Bool)
 | 0, _, _, _ => none
 | k + 1, x14, x108000, x108001 => if x14 = true then (some false) else (spec_pzGood.l0 k x108001 (x108001.length : Int) 0)
def spec_pzGood.l0 : Nat → List (S43) → Int → Int → Option (Bool)
 | 0, _, _, _ => none
 | k + 1, x16, x17, x18 => if x18 < x17 then (if 0 ≤ x18 then (if x18 < (x16.length : Int) then ((spec_pzClue.f k ((rd_T43 x16 x18).f0) ((rd_T43 x16 x18).f1) ((rd_T43 x16 x18).f2)).bind fun t111 => (if t111 = true then (spec_pzGood.l0 k x16 x17 (wrap64 (x18 + 1))) else (some false))) else (none)) else (none)) else (some true)
end
def spec_pzGood.f (k : Nat) (a0_0 : Int) (l0_1 : List (S43)) : Option (Bool) := (spec_pzWide.f a0_0).bind fun t108 => (if t108 = true then (spec_pzGood.j0 k (decide ((l0_1.length : Int) > 6)) a0_0 l0_1) else (spec_pzGood.j0 k true a0_0 l0_1))
set_option maxHeartbeats 8000000 in
set_option maxRecDepth 100000 in
theorem spec_pzGood.calls (k : Nat) (a0_0 : Int) (A0_1 : Option Addr) (c0_1 : Nat) (l0_1 : List (S43)) (r : Bool) (w : World) (hr0_1 : Kd.C k43 w A0_1 l0_1.length l0_1) (hc0_1 : l0_1.length ≤ c0_1) (h : spec_pzGood.f k a0_0 l0_1 = some r) :
  Calls Try.prog 45 #[.agg #[.int .i64 a0_0, .slice A0_1 l0_1.length c0_1]] w fun e w' => e = .returned (.bool r) ∧ Below w.heap.size w w' := by
 have hu28 := Try.underlying28; have hu43 := Try.underlying43; have HR0_1 := Aside0.mk hr0_1; have HC0_1 := Aside0.mk hc0_1; clear hr0_1 hc0_1
 have HB := Aside0.mk (Below.refl w.heap.size w)
 have H : ((spec_pzWide.f a0_0).bind fun t108 => (if t108 = true then (spec_pzGood.j0 k (decide ((l0_1.length : Int) > 6)) a0_0 l0_1) else (spec_pzGood.j0 k true a0_0 l0_1))) = some r := h
 clear h; have HC2 := Aside0.mk H; clear H
 go_enter Try.func45, Try.ntmps45
 go_upto_region 1 with (first | ((with_reducible refine gate_dst (N := 1) rfl ?_); (try (refine gate_guard (by rfl) ?_; dsimp only)); refine zE 1 #[.int .i64 a0_0, .slice A0_1 l0_1.length c0_1] 28 ?_; intro gb107 hg w3 hbox hb; have BK107 := Aside0.mk (hbox); have GW107 := zg HB hg; have GE107 := GW107; replace HB := zh HB hb; clear hb hbox hg))
 (try simp only [Act.put, List.setIfInBounds_toArray, List.set_cons_zero, List.set_cons_succ])
 go_cut [14] (fun v14 wc => ∃ (kq : Nat) (x14_1 : Bool), v14 = .bool x14_1 ∧ Aside0 (spec_pzGood.j0 kq x14_1 a0_0 l0_1 = some r) ∧ Aside0 (kq ≤ k) ∧ Aside0 (wc.heap[gb107]? = some (.cells #[.int .i64 a0_0, (.slice A0_1 l0_1.length c0_1)] 28 (0, 0))) ∧ Aside0 (Below w.heap.size w wc))
 case first =>
  have H := HC2.out; clear HC2; replace H := Option.bind_eq_some_iff.mp H; obtain ⟨t108, A40, H⟩ := H
  replace H : (if t108 = true then (spec_pzGood.j0 k (decide ((l0_1.length : Int) > 6)) a0_0 l0_1) else (spec_pzGood.j0 k true a0_0 l0_1)) = some r := H
  have A4 := Aside0.mk A40; clear A40
  by_cases c5 : t108 = true
  ·subst c5
   rw [if_pos rfl] at H; have H' := Aside0.mk H; clear H
   obtain ⟨_, _, _, _⟩ := zc2 BK107
   go_wp2_with (first | ((with_reducible refine gate_callee (f := 77) rfl ?_); refine zG (some 7) Try.func77 #[.int .i64 a0_0] ?_; (with_reducible refine (spec_pzWide.calls a0_0 true _ A4.out).mono ?_); rintro e w' ⟨rfl, ⟨nd, rfl⟩⟩; refine ⟨_, rfl, ?_⟩))
   go_meet
   case rel => exact ⟨_, (decide ((l0_1.length : Int) > 6)), zu, H', ⟨by first | omega | exact Nat.le_refl _⟩, zk BK107, ⟨zy HB⟩⟩
  ·replace c5 := Bool.eq_false_iff.mpr c5
   subst c5; rw [if_neg (show ¬ (false = true) by decide)] at H; have H' := Aside0.mk H; clear H
   obtain ⟨_, _, _, _⟩ := zc2 BK107
   go_wp2_with (first | ((with_reducible refine gate_callee (f := 77) rfl ?_); refine zG (some 7) Try.func77 #[.int .i64 a0_0] ?_; (with_reducible refine (spec_pzWide.calls a0_0 false _ A4.out).mono ?_); rintro e w' ⟨rfl, ⟨nd, rfl⟩⟩; refine ⟨_, rfl, ?_⟩))
   go_meet
   case rel => exact ⟨_, (true), zu, H', ⟨by first | omega | exact Nat.le_refl _⟩, zk BK107, ⟨zy HB⟩⟩
 case rest =>
  clear HC2
  obtain ⟨kq, x14_1, rfl, HA, HJ1, BK107, HB⟩ := hcut
  cases kq with
  | zero => exact absurd HA.out (by simp [spec_pzGood.j0])
  | succ kj1 =>
   have H := HA.out; clear HA; simp only [spec_pzGood.j0] at H
   by_cases c8 : x14_1 = true
   ·subst c8
    rw [if_pos rfl] at H
    obtain rfl := Option.some.inj H
    go_wp2
    go_ret
    exact ⟨zt, zy HB⟩
   ·replace c8 := Bool.eq_false_iff.mpr c8
    subst c8; rw [if_neg (show ¬ (false = true) by decide)] at H; have H' := Aside0.mk H; clear H
    obtain ⟨_, _, _, _⟩ := zc2 BK107
    go_wp2
    go_loopg [18] kj1 (fun kq v18 w' => ∃ (x18_2 : Int), v18 = .int .i64 x18_2 ∧ Aside0 (spec_pzGood.l0 kq l0_1 (l0_1.length : Int) x18_2 = some r) ∧ Aside0 (kq ≤ kj1) ∧ Aside0 (w'.heap[gb107]? = some (.cells #[.int .i64 a0_0, (.slice A0_1 l0_1.length c0_1)] 28 (0, 0))) ∧ Aside0 (Below w.heap.size w w'))
    case atStart => exact ⟨(0), zu, H', ⟨Nat.le_refl _⟩, zk BK107, ⟨zy HB⟩⟩
    case round =>
     clear H'
     obtain ⟨x18_2, rfl, HA, HK2, BK107, HB⟩ := hrel
     cases gk with
     | zero => exact absurd HA.out (by simp [spec_pzGood.l0])
     | succ k2 =>
      have H := HA.out; clear HA; simp only [spec_pzGood.l0] at H
      by_cases c10 : x18_2 < (l0_1.length : Int)
      ·rw [if_pos c10] at H
       have c10b0 : decide (x18_2 < (l0_1.length : Int)) = true := decide_eq_true c10; clear c10
       by_cases c11 : 0 ≤ x18_2
       ·rw [if_pos c11] at H
        have c11b0 : decide (0 ≤ x18_2) = true := decide_eq_true c11; clear c11
        by_cases c12 : x18_2 < (l0_1.length : Int)
        ·rw [if_pos c12] at H
         have c12b0 : decide (x18_2 < (l0_1.length : Int)) = true := decide_eq_true c12; clear c12; replace H := Option.bind_eq_some_iff.mp H; obtain ⟨t111, A130, H⟩ := H
         replace H : (if t111 = true then (spec_pzGood.l0 k2 l0_1 (l0_1.length : Int) (wrap64 (x18_2 + 1))) else (some false)) = some r := H
         have A13 := Aside0.mk A130; clear A130
         by_cases c14 : t111 = true
         ·subst c14
          rw [if_pos rfl] at H; have H' := Aside0.mk H; clear H
          have p109 : 0 ≤ (x18_2 : Int) := of_decide_eq_true zO0_1
          have q109 : x18_2 < (l0_1.length : Int) := of_decide_eq_true zO0_1
          obtain ⟨ad109, e109, hx109_0, hx109_1, hx109_2⟩ := at_T43 HR0_1.out x18_2 p109 q109
          cases e109
          replace hx109_0 := (HB.out.cell (World.block_lt_of_cell? w _ hx109_0)).trans hx109_0
          replace hx109_1 := (HB.out.cell (World.block_lt_of_cell? w _ hx109_1)).trans hx109_1
          replace hx109_2 := (HB.out.cell (World.block_lt_of_cell? w _ hx109_2)).trans hx109_2
          replace p109 := eq_true p109; replace q109 := eq_true q109
          go_wp2_with (first | ((with_reducible refine gate_dst (N := 4) rfl ?_); (try (refine gate_guard (by rfl) ?_; dsimp only)); refine zE 4 #[.int .i64 0, .int .i64 0, .int .i64 0] 43 ?_; intro gb110 hg w15 hbox hb; have BK110 := Aside0.mk (hbox); have GW110 := zg HB hg; have GE110 := GW110; have NB107_110 := zl BK107 hg; have NB110_107 := zr BK107 hg; replace BK107 := zb BK107 hb; replace HB := zh HB hb; clear hb hbox hg; have hnb16 := NB110_107.out; have hnc16 := NB107_110.out; obtain ⟨_, _, _, _, _, _⟩ := zc3 BK110) | ((with_reducible refine gate_callee (f := 75) rfl ?_); refine zG (some 23) Try.func75 #[.agg #[.int .i64 ((rd_T43 l0_1 x18_2).f0), .int .i64 ((rd_T43 l0_1 x18_2).f1), .int .i64 ((rd_T43 l0_1 x18_2).f2)]] ?_; (with_reducible refine (spec_pzClue.calls k2 ((rd_T43 l0_1 x18_2).f0) ((rd_T43 l0_1 x18_2).f1) ((rd_T43 l0_1 x18_2).f2) true _ A13.out).mono ?_); rintro e w18 ⟨rfl, hb⟩; refine ⟨_, rfl, ?_⟩; have n1_ := Aside0.mk (blk_below (g := gb110) (o := .cells #[.int .i64 ((rd_T43 l0_1 x18_2).f0), .int .i64 ((rd_T43 l0_1 x18_2).f1), .int .i64 ((rd_T43 l0_1 x18_2).f2)] 43 (0, 0)) (zw BK110) hb); replace BK107 := zb BK107 hb; replace HB := zh HB hb; clear BK110; have BK110 := n1_; clear n1_; clear hb))
          go_roundg k2
          case measure => have := HJ1.out; have := HK2.out; omega
          case rel => exact ⟨(wrap64 (x18_2 + 1)), zu, H', ⟨by have := HJ1.out; have := HK2.out; omega⟩, zk BK107, ⟨zy HB⟩⟩
         ·replace c14 := Bool.eq_false_iff.mpr c14
          subst c14; rw [if_neg (show ¬ (false = true) by decide)] at H
          obtain rfl := Option.some.inj H
          have p109 : 0 ≤ (x18_2 : Int) := of_decide_eq_true zO0_1
          have q109 : x18_2 < (l0_1.length : Int) := of_decide_eq_true zO0_1
          obtain ⟨ad109, e109, hx109_0, hx109_1, hx109_2⟩ := at_T43 HR0_1.out x18_2 p109 q109
          cases e109
          replace hx109_0 := (HB.out.cell (World.block_lt_of_cell? w _ hx109_0)).trans hx109_0
          replace hx109_1 := (HB.out.cell (World.block_lt_of_cell? w _ hx109_1)).trans hx109_1
          replace hx109_2 := (HB.out.cell (World.block_lt_of_cell? w _ hx109_2)).trans hx109_2
          replace p109 := eq_true p109; replace q109 := eq_true q109
          go_wp2_with (first | ((with_reducible refine gate_dst (N := 4) rfl ?_); (try (refine gate_guard (by rfl) ?_; dsimp only)); refine zE 4 #[.int .i64 0, .int .i64 0, .int .i64 0] 43 ?_; intro gb110 hg w19 hbox hb; have BK110 := Aside0.mk (hbox); have GW110 := zg HB hg; have GE110 := GW110; have NB107_110 := zl BK107 hg; have NB110_107 := zr BK107 hg; replace BK107 := zb BK107 hb; replace HB := zh HB hb; clear hb hbox hg; have hnb20 := NB110_107.out; have hnc20 := NB107_110.out; obtain ⟨_, _, _, _, _, _⟩ := zc3 BK110) | ((with_reducible refine gate_callee (f := 75) rfl ?_); refine zG (some 23) Try.func75 #[.agg #[.int .i64 ((rd_T43 l0_1 x18_2).f0), .int .i64 ((rd_T43 l0_1 x18_2).f1), .int .i64 ((rd_T43 l0_1 x18_2).f2)]] ?_; (with_reducible refine (spec_pzClue.calls k2 ((rd_T43 l0_1 x18_2).f0) ((rd_T43 l0_1 x18_2).f1) ((rd_T43 l0_1 x18_2).f2) false _ A13.out).mono ?_); rintro e w22 ⟨rfl, hb⟩; refine ⟨_, rfl, ?_⟩; have n1_ := Aside0.mk (blk_below (g := gb110) (o := .cells #[.int .i64 ((rd_T43 l0_1 x18_2).f0), .int .i64 ((rd_T43 l0_1 x18_2).f1), .int .i64 ((rd_T43 l0_1 x18_2).f2)] 43 (0, 0)) (zw BK110) hb); replace BK107 := zb BK107 hb; replace HB := zh HB hb; clear BK110; have BK110 := n1_; clear n1_; clear hb))
          go_ret
          exact ⟨zt, zy HB⟩
        ·rw [if_neg c12] at H
         exact absurd H zO0_3
       ·rw [if_neg c11] at H
        exact absurd H zO0_3
      ·rw [if_neg c10] at H
       have c10b0 : decide (x18_2 < (l0_1.length : Int)) = false := decide_eq_false c10; clear c10
       obtain rfl := Option.some.inj H
       go_wp2
       go_ret
       exact ⟨zt, zy HB⟩


/-! ### spec_clLow: function 99 -/
def spec_clLow.l0 : Nat → Int → Int → Int → Int → Option (Int × Int)
 | 0, _, _, _, _ => none
 | k + 1, x0, x1, x6, x7 => if x7 > 0 then (if x7 = 0 then (none) else (spec_clLow.l0 k x0 x1 x7 (Int.tmod x6 x7))) else (if x6 = 0 then (none) else (some (wrap64 (Int.tdiv x0 x6), wrap64 (Int.tdiv x1 x6))))
def spec_clLow.f (k : Nat) (a0 : Int) (a1 : Int) : Option (Int × Int) := spec_clLow.l0 k a0 a1 a0 a1
set_option maxHeartbeats 8000000 in
set_option maxRecDepth 100000 in
theorem spec_clLow.calls (k : Nat) (a0 : Int) (a1 : Int) (r1 : Int) (r2 : Int) (w : World) (h : spec_clLow.f k a0 a1 = some (r1, r2)) :
  Calls Try.prog 99 #[.int .i64 a0, .int .i64 a1] w fun e w' => e = .returned (.tuple #[.int .i64 r1, .int .i64 r2]) ∧ Drawn0 w w' := by
 have H : (spec_clLow.l0 k a0 a1 a0 a1) = some (r1, r2) := h
 clear h; have H' := Aside0.mk H; clear H
 go_enter Try.func99, Try.ntmps99
 go_wp2
 repeat (go_quiet (fail); try go_wp2)
 go_loopg [6, 7] k (fun kq v6 v7 w' => ∃ (x6_1 : Int) (x7_1 : Int), v6 = .int .i64 x6_1 ∧ v7 = .int .i64 x7_1 ∧ Aside0 (spec_clLow.l0 kq a0 a1 x6_1 x7_1 = some (r1, r2)) ∧ Aside0 (kq ≤ k) ∧ Drawn0 w w')
 case atStart => exact ⟨(a0), (a1), zu, zu, H', ⟨Nat.le_refl _⟩, by repeat (first | exact Drawn0.refl _ | apply Drawn0.step)⟩
 case round =>
  clear H'
  obtain ⟨x6_1, x7_1, rfl, rfl, HA, HK1, ⟨m1, rfl⟩⟩ := hrel
  cases gk with
  | zero => exact absurd HA.out (by simp [spec_clLow.l0])
  | succ k1 =>
   have H := HA.out; clear HA; simp only [spec_clLow.l0] at H
   by_cases c3 : x7_1 > 0
   ·rw [if_pos c3] at H
    have c3b0 : decide (0 < x7_1) = true := decide_eq_true c3; clear c3
    by_cases c4 : x7_1 = 0
    ·rw [if_pos c4] at H
     exact absurd H zO0_3
    ·rw [if_neg c4] at H
     have c4b0 : (x7_1 == 0) = false := beq_eq_false_iff_ne.mpr c4
     have c4b1 : (x7_1 != 0) = true := bne_iff_ne.mpr c4
     have H' := Aside0.mk H; clear H
     go_wp2
     repeat (go_quiet (fail); try go_wp2)
     go_roundg k1
     case measure => have := HK1.out; omega
     case rel => exact ⟨(x7_1), (Int.tmod x6_1 x7_1), zu, zu, H', ⟨by have := HK1.out; omega⟩, by repeat (first | exact Drawn0.refl _ | apply Drawn0.step)⟩
   ·rw [if_neg c3] at H
    have c3b0 : decide (0 < x7_1) = false := decide_eq_false c3; clear c3
    by_cases c5 : x6_1 = 0
    ·rw [if_pos c5] at H
     exact absurd H zO0_3
    ·rw [if_neg c5] at H
     have c5b0 : (x6_1 == 0) = false := beq_eq_false_iff_ne.mpr c5
     have c5b1 : (x6_1 != 0) = true := bne_iff_ne.mpr c5
     simp only [Option.some.injEq, Prod.mk.injEq] at H; obtain ⟨rfl, rfl⟩ := H
     go_wp2
     repeat (go_quiet (fail); try go_wp2)
     go_ret2
     exact ⟨by first | rfl | (simp; done) | (simp [*]; done), by repeat (first | exact Drawn0.refl _ | apply Drawn0.step)⟩


/-! ### spec_clSquares: function 100 -/
def spec_clSquares.f (a0_0 : Int) (a0_1 : Int) (a0_2 : Int) : Option (Int × Int) := some (wrap64 ((wrap64 (a0_0 * a0_0)) + (wrap64 (a0_1 * a0_1))), wrap64 ((wrap64 (a0_0 * a0_0)) + (wrap64 (a0_2 * a0_2))))
set_option maxHeartbeats 8000000 in
set_option maxRecDepth 100000 in
theorem spec_clSquares.calls (a0_0 : Int) (a0_1 : Int) (a0_2 : Int) (r1 : Int) (r2 : Int) (w : World) (h : spec_clSquares.f a0_0 a0_1 a0_2 = some (r1, r2)) :
  Calls Try.prog 100 #[.agg #[.int .i64 a0_0, .int .i64 a0_1, .int .i64 a0_2]] w fun e w' => e = .returned (.tuple #[.int .i64 r1, .int .i64 r2]) ∧ Below w.heap.size w w' := by
 have hu41 := Try.underlying41
 have HB := Aside0.mk (Below.refl w.heap.size w)
 have H : (some (wrap64 ((wrap64 (a0_0 * a0_0)) + (wrap64 (a0_1 * a0_1))), wrap64 ((wrap64 (a0_0 * a0_0)) + (wrap64 (a0_2 * a0_2))))) = some (r1, r2) := h
 clear h; simp only [Option.some.injEq, Prod.mk.injEq] at H; obtain ⟨rfl, rfl⟩ := H
 go_enter Try.func100, Try.ntmps100
 go_wp2_with (first | ((with_reducible refine gate_dst (N := 1) rfl ?_); refine zE 1 #[.int .i64 a0_0, .int .i64 a0_1, .int .i64 a0_2] 41 ?_; intro gb112 hg w2 hbox hb; have BK112 := Aside0.mk (hbox); have GW112 := zg HB hg; have GE112 := GW112; replace HB := zh HB hb; clear hb hbox hg; obtain ⟨_, _, _, _, _, _⟩ := zc3 BK112))
 repeat (go_quiet (first | ((with_reducible refine gate_dst (N := 1) rfl ?_); refine zE 1 #[.int .i64 a0_0, .int .i64 a0_1, .int .i64 a0_2] 41 ?_; intro gb112 hg w2 hbox hb; have BK112 := Aside0.mk (hbox); have GW112 := zg HB hg; have GE112 := GW112; replace HB := zh HB hb; clear hb hbox hg; obtain ⟨_, _, _, _, _, _⟩ := zc3 BK112)); try go_wp2_with (first | ((with_reducible refine gate_dst (N := 1) rfl ?_); refine zE 1 #[.int .i64 a0_0, .int .i64 a0_1, .int .i64 a0_2] 41 ?_; intro gb112 hg w2 hbox hb; have BK112 := Aside0.mk (hbox); have GW112 := zg HB hg; have GE112 := GW112; replace HB := zh HB hb; clear hb hbox hg; obtain ⟨_, _, _, _, _, _⟩ := zc3 BK112)))
 go_ret2
 exact ⟨zt, zy HB⟩


/-! ### spec_clRoot: function 101 -/
def spec_clRoot.l0 : Nat → Int → Int → Int → Option (Int)
 | 0, _, _, _ => none
 | k + 1, x0, x3, x4 => if x3 < (wrap64 (x4 - 1)) then (if (wrap64 ((wrap64 (Int.tdiv (wrap64 (x3 + x4)) 2)) * (wrap64 (Int.tdiv (wrap64 (x3 + x4)) 2)))) ≤ x0 then (spec_clRoot.l0 k x0 (wrap64 (Int.tdiv (wrap64 (x3 + x4)) 2)) x4) else (spec_clRoot.l0 k x0 x3 (wrap64 (Int.tdiv (wrap64 (x3 + x4)) 2)))) else (some x3)
def spec_clRoot.f (k : Nat) (a0 : Int) : Option (Int) := spec_clRoot.l0 k a0 0 2147483648
set_option maxHeartbeats 8000000 in
set_option maxRecDepth 100000 in
theorem spec_clRoot.calls (k : Nat) (a0 : Int) (r : Int) (w : World) (h : spec_clRoot.f k a0 = some r) :
  Calls Try.prog 101 #[.int .i64 a0] w fun e w' => e = .returned (.int .i64 r) ∧ Drawn0 w w' := by
 have H : (spec_clRoot.l0 k a0 0 2147483648) = some r := h
 clear h; have H' := Aside0.mk H; clear H
 go_enter Try.func101, Try.ntmps101
 go_wp2
 go_loopg [3, 4] k (fun kq v3 v4 w' => ∃ (x3_1 : Int) (x4_1 : Int), v3 = .int .i64 x3_1 ∧ v4 = .int .i64 x4_1 ∧ Aside0 (spec_clRoot.l0 kq a0 x3_1 x4_1 = some r) ∧ Aside0 (kq ≤ k) ∧ Drawn0 w w')
 case atStart => exact ⟨(0), (2147483648), zu, zu, H', ⟨Nat.le_refl _⟩, by repeat (first | exact Drawn0.refl _ | apply Drawn0.step)⟩
 case round =>
  clear H'
  obtain ⟨x3_1, x4_1, rfl, rfl, HA, HK1, ⟨m1, rfl⟩⟩ := hrel
  cases gk with
  | zero => exact absurd HA.out (by simp [spec_clRoot.l0])
  | succ k1 =>
   have H := HA.out; clear HA; simp only [spec_clRoot.l0] at H
   by_cases c2 : x3_1 < (wrap64 (x4_1 - 1))
   ·rw [if_pos c2] at H
    have c2b0 : decide (x3_1 < (wrap64 (x4_1 - 1))) = true := decide_eq_true c2; clear c2
    by_cases c3 : (wrap64 ((wrap64 (Int.tdiv (wrap64 (x3_1 + x4_1)) 2)) * (wrap64 (Int.tdiv (wrap64 (x3_1 + x4_1)) 2)))) ≤ a0
    ·rw [if_pos c3] at H
     have c3b0 : decide ((wrap64 ((wrap64 (Int.tdiv (wrap64 (x3_1 + x4_1)) 2)) * (wrap64 (Int.tdiv (wrap64 (x3_1 + x4_1)) 2)))) ≤ a0) = true := decide_eq_true c3; clear c3; have H' := Aside0.mk H; clear H
     go_wp2
     go_roundg k1
     case measure => have := HK1.out; omega
     case rel => exact ⟨(wrap64 (Int.tdiv (wrap64 (x3_1 + x4_1)) 2)), (x4_1), zu, zu, H', ⟨by have := HK1.out; omega⟩, by repeat (first | exact Drawn0.refl _ | apply Drawn0.step)⟩
    ·rw [if_neg c3] at H
     have c3b0 : decide ((wrap64 ((wrap64 (Int.tdiv (wrap64 (x3_1 + x4_1)) 2)) * (wrap64 (Int.tdiv (wrap64 (x3_1 + x4_1)) 2)))) ≤ a0) = false := decide_eq_false c3; clear c3; have H' := Aside0.mk H; clear H
     go_wp2
     go_roundg k1
     case measure => have := HK1.out; omega
     case rel => exact ⟨(x3_1), (wrap64 (Int.tdiv (wrap64 (x3_1 + x4_1)) 2)), zu, zu, H', ⟨by have := HK1.out; omega⟩, by repeat (first | exact Drawn0.refl _ | apply Drawn0.step)⟩
   ·rw [if_neg c2] at H
    have c2b0 : decide (x3_1 < (wrap64 (x4_1 - 1))) = false := decide_eq_false c2; clear c2
    obtain rfl := Option.some.inj H
    go_wp2
    go_ret
    exact ⟨by first | rfl | (simp; done) | (simp [*]; done), by repeat (first | exact Drawn0.refl _ | apply Drawn0.step)⟩


/-! ### spec_pzValue: function 91 -/
def spec_pzValue.f (k : Nat) (a0 : Int) (a1 : Int) (a2_0 : Int) (a2_1 : Int) (a2_2 : Int) : Option (Int × Int) := if a0 = 0 then (some (a1, wrap64 (a2_1 + a2_2))) else (if a0 = 1 then (if a2_1 > a2_2 then (some (a1, 1)) else (some (a1, 0))) else (if a0 = 2 then ((spec_clLow.f k (wrap64 (a2_1 * a2_2)) (wrap64 (a2_1 + a2_2))).bind fun bt114 => (some (bt114.1, bt114.2))) else (if a0 = 3 then ((spec_clSquares.f a2_0 a2_1 a2_2).bind fun bt116 => (if a1 = 1 then ((spec_clRoot.f k bt116.2).bind fun t118 => (if (wrap64 (t118 * t118)) = bt116.2 then (some (a1, 1)) else (some (a1, 0)))) else ((spec_clRoot.f k bt116.1).bind fun t119 => (if (wrap64 (t119 * t119)) = bt116.1 then (some (a1, 1)) else (some (a1, 0)))))) else (if a0 = 4 then ((spec_clLow.f k (wrap64 (a2_0 * a2_1)) (wrap64 (a2_1 + a2_2))).bind fun bt120 => (some (bt120.1, bt120.2))) else (some (a1, wrap64 (a2_1 * a2_2)))))))
set_option maxHeartbeats 8000000 in
set_option maxRecDepth 100000 in
theorem spec_pzValue.calls (k : Nat) (a0 : Int) (a1 : Int) (a2_0 : Int) (a2_1 : Int) (a2_2 : Int) (r1 : Int) (r2 : Int) (w : World) (h : spec_pzValue.f k a0 a1 a2_0 a2_1 a2_2 = some (r1, r2)) :
  Calls Try.prog 91 #[.int .i64 a0, .int .i64 a1, .agg #[.int .i64 a2_0, .int .i64 a2_1, .int .i64 a2_2]] w fun e w' => e = .returned (.tuple #[.int .i64 r1, .int .i64 r2]) ∧ Below w.heap.size w w' := by
 have hu41 := Try.underlying41
 have HB := Aside0.mk (Below.refl w.heap.size w)
 have H : (if a0 = 0 then (some (a1, wrap64 (a2_1 + a2_2))) else (if a0 = 1 then (if a2_1 > a2_2 then (some (a1, 1)) else (some (a1, 0))) else (if a0 = 2 then ((spec_clLow.f k (wrap64 (a2_1 * a2_2)) (wrap64 (a2_1 + a2_2))).bind fun bt114 => (some (bt114.1, bt114.2))) else (if a0 = 3 then ((spec_clSquares.f a2_0 a2_1 a2_2).bind fun bt116 => (if a1 = 1 then ((spec_clRoot.f k bt116.2).bind fun t118 => (if (wrap64 (t118 * t118)) = bt116.2 then (some (a1, 1)) else (some (a1, 0)))) else ((spec_clRoot.f k bt116.1).bind fun t119 => (if (wrap64 (t119 * t119)) = bt116.1 then (some (a1, 1)) else (some (a1, 0)))))) else (if a0 = 4 then ((spec_clLow.f k (wrap64 (a2_0 * a2_1)) (wrap64 (a2_1 + a2_2))).bind fun bt120 => (some (bt120.1, bt120.2))) else (some (a1, wrap64 (a2_1 * a2_2)))))))) = some (r1, r2) := h
 clear h
 by_cases c4 : a0 = 0
 ·rw [if_pos c4] at H
  have c4b0 : (a0 == 0) = true := beq_iff_eq.mpr c4
  have c4b1 : (a0 != 0) = false := bne_eq_false_iff_eq.mpr c4
  clear c4; simp only [Option.some.injEq, Prod.mk.injEq] at H; obtain ⟨rfl, rfl⟩ := H
  go_enter Try.func91, Try.ntmps91
  go_wp2_with (first | ((with_reducible refine gate_dst (N := 5) rfl ?_); refine zE 5 #[.int .i64 a2_0, .int .i64 a2_1, .int .i64 a2_2] 41 ?_; intro gb113 hg w5 hbox hb; have BK113 := Aside0.mk (hbox); have GW113 := zg HB hg; have GE113 := GW113; replace HB := zh HB hb; clear hb hbox hg; obtain ⟨_, _, _, _, _, _⟩ := zc3 BK113))
  go_ret2
  exact ⟨zt, zy HB⟩
 ·rw [if_neg c4] at H
  have c4b0 : (a0 == 0) = false := beq_eq_false_iff_ne.mpr c4
  have c4b1 : (a0 != 0) = true := bne_iff_ne.mpr c4
  by_cases c7 : a0 = 1
  ·rw [if_pos c7] at H
   have c7b0 : (a0 == 1) = true := beq_iff_eq.mpr c7
   have c7b1 : (a0 != 1) = false := bne_eq_false_iff_eq.mpr c7
   clear c7
   by_cases c8 : a2_1 > a2_2
   ·rw [if_pos c8] at H
    have c8b0 : decide (a2_2 < a2_1) = true := decide_eq_true c8; clear c8; simp only [Option.some.injEq, Prod.mk.injEq] at H; obtain ⟨rfl, rfl⟩ := H
    go_enter Try.func91, Try.ntmps91
    go_wp2_with (first | ((with_reducible refine gate_dst (N := 5) rfl ?_); refine zE 5 #[.int .i64 a2_0, .int .i64 a2_1, .int .i64 a2_2] 41 ?_; intro gb113 hg w9 hbox hb; have BK113 := Aside0.mk (hbox); have GW113 := zg HB hg; have GE113 := GW113; replace HB := zh HB hb; clear hb hbox hg; obtain ⟨_, _, _, _, _, _⟩ := zc3 BK113))
    go_ret2
    exact ⟨zt, zy HB⟩
   ·rw [if_neg c8] at H
    have c8b0 : decide (a2_2 < a2_1) = false := decide_eq_false c8; clear c8; simp only [Option.some.injEq, Prod.mk.injEq] at H; obtain ⟨rfl, rfl⟩ := H
    go_enter Try.func91, Try.ntmps91
    go_wp2_with (first | ((with_reducible refine gate_dst (N := 5) rfl ?_); refine zE 5 #[.int .i64 a2_0, .int .i64 a2_1, .int .i64 a2_2] 41 ?_; intro gb113 hg w11 hbox hb; have BK113 := Aside0.mk (hbox); have GW113 := zg HB hg; have GE113 := GW113; replace HB := zh HB hb; clear hb hbox hg; obtain ⟨_, _, _, _, _, _⟩ := zc3 BK113))
    go_ret2
    exact ⟨zt, zy HB⟩
  ·rw [if_neg c7] at H
   have c7b0 : (a0 == 1) = false := beq_eq_false_iff_ne.mpr c7
   have c7b1 : (a0 != 1) = true := bne_iff_ne.mpr c7
   by_cases c13 : a0 = 2
   ·rw [if_pos c13] at H
    have c13b0 : (a0 == 2) = true := beq_iff_eq.mpr c13
    have c13b1 : (a0 != 2) = false := bne_eq_false_iff_eq.mpr c13
    clear c13; replace H := Option.bind_eq_some_iff.mp H; obtain ⟨⟨t114, t115⟩, A140, H⟩ := H
    replace H : (some (t114, t115)) = some (r1, r2) := H
    have A14 := Aside0.mk A140; clear A140; simp only [Option.some.injEq, Prod.mk.injEq] at H; obtain ⟨rfl, rfl⟩ := H
    go_enter Try.func91, Try.ntmps91
    go_wp2_with (first | ((with_reducible refine gate_dst (N := 5) rfl ?_); refine zE 5 #[.int .i64 a2_0, .int .i64 a2_1, .int .i64 a2_2] 41 ?_; intro gb113 hg w15 hbox hb; have BK113 := Aside0.mk (hbox); have GW113 := zg HB hg; have GE113 := GW113; replace HB := zh HB hb; clear hb hbox hg; obtain ⟨_, _, _, _, _, _⟩ := zc3 BK113) | ((with_reducible refine gate_callee (f := 99) rfl ?_); refine zG (some 45) Try.func99 #[.int .i64 (wrap64 (a2_1 * a2_2)), .int .i64 (wrap64 (a2_1 + a2_2))] ?_; (with_reducible refine (spec_clLow.calls k (wrap64 (a2_1 * a2_2)) (wrap64 (a2_1 + a2_2)) t114 t115 _ A14.out).mono ?_); rintro e w' ⟨rfl, ⟨nd, rfl⟩⟩; refine ⟨_, rfl, ?_⟩))
    go_ret2
    exact ⟨zt, zy HB⟩
   ·rw [if_neg c13] at H
    have c13b0 : (a0 == 2) = false := beq_eq_false_iff_ne.mpr c13
    have c13b1 : (a0 != 2) = true := bne_iff_ne.mpr c13
    by_cases c17 : a0 = 3
    ·rw [if_pos c17] at H
     have c17b0 : (a0 == 3) = true := beq_iff_eq.mpr c17
     have c17b1 : (a0 != 3) = false := bne_eq_false_iff_eq.mpr c17
     clear c17; replace H := Option.bind_eq_some_iff.mp H; obtain ⟨⟨t116, t117⟩, A180, H⟩ := H; (try dsimp only at H); have A18 := Aside0.mk A180; clear A180
     by_cases c19 : a1 = 1
     ·rw [if_pos c19] at H
      have c19b0 : (a1 == 1) = true := beq_iff_eq.mpr c19
      have c19b1 : (a1 != 1) = false := bne_eq_false_iff_eq.mpr c19
      clear c19; replace H := Option.bind_eq_some_iff.mp H; obtain ⟨t118, A200, H⟩ := H
      replace H : (if (wrap64 (t118 * t118)) = t117 then (some (a1, 1)) else (some (a1, 0))) = some (r1, r2) := H
      have A20 := Aside0.mk A200; clear A200
      by_cases c21 : (wrap64 (t118 * t118)) = t117
      ·rw [if_pos c21] at H
       have c21b0 : ((wrap64 (t118 * t118)) == t117) = true := beq_iff_eq.mpr c21
       have c21b1 : ((wrap64 (t118 * t118)) != t117) = false := bne_eq_false_iff_eq.mpr c21
       clear c21; simp only [Option.some.injEq, Prod.mk.injEq] at H; obtain ⟨rfl, rfl⟩ := H
       go_enter Try.func91, Try.ntmps91
       go_wp2_with (first | ((with_reducible refine gate_dst (N := 5) rfl ?_); refine zE 5 #[.int .i64 a2_0, .int .i64 a2_1, .int .i64 a2_2] 41 ?_; intro gb113 hg w22 hbox hb; have BK113 := Aside0.mk (hbox); have GW113 := zg HB hg; have GE113 := GW113; replace HB := zh HB hb; clear hb hbox hg; obtain ⟨_, _, _, _, _, _⟩ := zc3 BK113) | ((with_reducible refine gate_callee (f := 100) rfl ?_); refine zG (some 52) Try.func100 #[.agg #[.int .i64 a2_0, .int .i64 a2_1, .int .i64 a2_2]] ?_; (with_reducible refine (spec_clSquares.calls a2_0 a2_1 a2_2 t116 t117 _ A18.out).mono ?_); rintro e w24 ⟨rfl, hb⟩; refine ⟨_, rfl, ?_⟩; replace BK113 := zb BK113 hb; replace HB := zh HB hb; clear hb) | ((with_reducible refine gate_callee (f := 101) rfl ?_); refine zG (some 59) Try.func101 #[.int .i64 t117] ?_; (with_reducible refine (spec_clRoot.calls k t117 t118 _ A20.out).mono ?_); rintro e w' ⟨rfl, ⟨nd, rfl⟩⟩; refine ⟨_, rfl, ?_⟩))
       go_ret2
       exact ⟨zt, zy HB⟩
      ·rw [if_neg c21] at H
       have c21b0 : ((wrap64 (t118 * t118)) == t117) = false := beq_eq_false_iff_ne.mpr c21
       have c21b1 : ((wrap64 (t118 * t118)) != t117) = true := bne_iff_ne.mpr c21
       simp only [Option.some.injEq, Prod.mk.injEq] at H; obtain ⟨rfl, rfl⟩ := H
       go_enter Try.func91, Try.ntmps91
       go_wp2_with (first | ((with_reducible refine gate_dst (N := 5) rfl ?_); refine zE 5 #[.int .i64 a2_0, .int .i64 a2_1, .int .i64 a2_2] 41 ?_; intro gb113 hg w25 hbox hb; have BK113 := Aside0.mk (hbox); have GW113 := zg HB hg; have GE113 := GW113; replace HB := zh HB hb; clear hb hbox hg; obtain ⟨_, _, _, _, _, _⟩ := zc3 BK113) | ((with_reducible refine gate_callee (f := 100) rfl ?_); refine zG (some 52) Try.func100 #[.agg #[.int .i64 a2_0, .int .i64 a2_1, .int .i64 a2_2]] ?_; (with_reducible refine (spec_clSquares.calls a2_0 a2_1 a2_2 t116 t117 _ A18.out).mono ?_); rintro e w27 ⟨rfl, hb⟩; refine ⟨_, rfl, ?_⟩; replace BK113 := zb BK113 hb; replace HB := zh HB hb; clear hb) | ((with_reducible refine gate_callee (f := 101) rfl ?_); refine zG (some 59) Try.func101 #[.int .i64 t117] ?_; (with_reducible refine (spec_clRoot.calls k t117 t118 _ A20.out).mono ?_); rintro e w' ⟨rfl, ⟨nd, rfl⟩⟩; refine ⟨_, rfl, ?_⟩))
       go_ret2
       exact ⟨zt, zy HB⟩
     ·rw [if_neg c19] at H
      have c19b0 : (a1 == 1) = false := beq_eq_false_iff_ne.mpr c19
      have c19b1 : (a1 != 1) = true := bne_iff_ne.mpr c19
      replace H := Option.bind_eq_some_iff.mp H; obtain ⟨t119, A280, H⟩ := H
      replace H : (if (wrap64 (t119 * t119)) = t116 then (some (a1, 1)) else (some (a1, 0))) = some (r1, r2) := H
      have A28 := Aside0.mk A280; clear A280
      by_cases c29 : (wrap64 (t119 * t119)) = t116
      ·rw [if_pos c29] at H
       have c29b0 : ((wrap64 (t119 * t119)) == t116) = true := beq_iff_eq.mpr c29
       have c29b1 : ((wrap64 (t119 * t119)) != t116) = false := bne_eq_false_iff_eq.mpr c29
       clear c29; simp only [Option.some.injEq, Prod.mk.injEq] at H; obtain ⟨rfl, rfl⟩ := H
       go_enter Try.func91, Try.ntmps91
       go_wp2_with (first | ((with_reducible refine gate_dst (N := 5) rfl ?_); refine zE 5 #[.int .i64 a2_0, .int .i64 a2_1, .int .i64 a2_2] 41 ?_; intro gb113 hg w30 hbox hb; have BK113 := Aside0.mk (hbox); have GW113 := zg HB hg; have GE113 := GW113; replace HB := zh HB hb; clear hb hbox hg; obtain ⟨_, _, _, _, _, _⟩ := zc3 BK113) | ((with_reducible refine gate_callee (f := 100) rfl ?_); refine zG (some 52) Try.func100 #[.agg #[.int .i64 a2_0, .int .i64 a2_1, .int .i64 a2_2]] ?_; (with_reducible refine (spec_clSquares.calls a2_0 a2_1 a2_2 t116 t117 _ A18.out).mono ?_); rintro e w32 ⟨rfl, hb⟩; refine ⟨_, rfl, ?_⟩; replace BK113 := zb BK113 hb; replace HB := zh HB hb; clear hb) | ((with_reducible refine gate_callee (f := 101) rfl ?_); refine zG (some 59) Try.func101 #[.int .i64 t116] ?_; (with_reducible refine (spec_clRoot.calls k t116 t119 _ A28.out).mono ?_); rintro e w' ⟨rfl, ⟨nd, rfl⟩⟩; refine ⟨_, rfl, ?_⟩))
       go_ret2
       exact ⟨zt, zy HB⟩
      ·rw [if_neg c29] at H
       have c29b0 : ((wrap64 (t119 * t119)) == t116) = false := beq_eq_false_iff_ne.mpr c29
       have c29b1 : ((wrap64 (t119 * t119)) != t116) = true := bne_iff_ne.mpr c29
       simp only [Option.some.injEq, Prod.mk.injEq] at H; obtain ⟨rfl, rfl⟩ := H
       go_enter Try.func91, Try.ntmps91
       go_wp2_with (first | ((with_reducible refine gate_dst (N := 5) rfl ?_); refine zE 5 #[.int .i64 a2_0, .int .i64 a2_1, .int .i64 a2_2] 41 ?_; intro gb113 hg w33 hbox hb; have BK113 := Aside0.mk (hbox); have GW113 := zg HB hg; have GE113 := GW113; replace HB := zh HB hb; clear hb hbox hg; obtain ⟨_, _, _, _, _, _⟩ := zc3 BK113) | ((with_reducible refine gate_callee (f := 100) rfl ?_); refine zG (some 52) Try.func100 #[.agg #[.int .i64 a2_0, .int .i64 a2_1, .int .i64 a2_2]] ?_; (with_reducible refine (spec_clSquares.calls a2_0 a2_1 a2_2 t116 t117 _ A18.out).mono ?_); rintro e w35 ⟨rfl, hb⟩; refine ⟨_, rfl, ?_⟩; replace BK113 := zb BK113 hb; replace HB := zh HB hb; clear hb) | ((with_reducible refine gate_callee (f := 101) rfl ?_); refine zG (some 59) Try.func101 #[.int .i64 t116] ?_; (with_reducible refine (spec_clRoot.calls k t116 t119 _ A28.out).mono ?_); rintro e w' ⟨rfl, ⟨nd, rfl⟩⟩; refine ⟨_, rfl, ?_⟩))
       go_ret2
       exact ⟨zt, zy HB⟩
    ·rw [if_neg c17] at H
     have c17b0 : (a0 == 3) = false := beq_eq_false_iff_ne.mpr c17
     have c17b1 : (a0 != 3) = true := bne_iff_ne.mpr c17
     by_cases c36 : a0 = 4
     ·rw [if_pos c36] at H
      have c36b0 : (a0 == 4) = true := beq_iff_eq.mpr c36
      have c36b1 : (a0 != 4) = false := bne_eq_false_iff_eq.mpr c36
      clear c36; replace H := Option.bind_eq_some_iff.mp H; obtain ⟨⟨t120, t121⟩, A370, H⟩ := H
      replace H : (some (t120, t121)) = some (r1, r2) := H
      have A37 := Aside0.mk A370; clear A370; simp only [Option.some.injEq, Prod.mk.injEq] at H; obtain ⟨rfl, rfl⟩ := H
      go_enter Try.func91, Try.ntmps91
      go_wp2_with (first | ((with_reducible refine gate_dst (N := 5) rfl ?_); refine zE 5 #[.int .i64 a2_0, .int .i64 a2_1, .int .i64 a2_2] 41 ?_; intro gb113 hg w38 hbox hb; have BK113 := Aside0.mk (hbox); have GW113 := zg HB hg; have GE113 := GW113; replace HB := zh HB hb; clear hb hbox hg; obtain ⟨_, _, _, _, _, _⟩ := zc3 BK113) | ((with_reducible refine gate_callee (f := 99) rfl ?_); refine zG (some 78) Try.func99 #[.int .i64 (wrap64 (a2_0 * a2_1)), .int .i64 (wrap64 (a2_1 + a2_2))] ?_; (with_reducible refine (spec_clLow.calls k (wrap64 (a2_0 * a2_1)) (wrap64 (a2_1 + a2_2)) t120 t121 _ A37.out).mono ?_); rintro e w' ⟨rfl, ⟨nd, rfl⟩⟩; refine ⟨_, rfl, ?_⟩))
      go_ret2
      exact ⟨zt, zy HB⟩
     ·rw [if_neg c36] at H
      have c36b0 : (a0 == 4) = false := beq_eq_false_iff_ne.mpr c36
      have c36b1 : (a0 != 4) = true := bne_iff_ne.mpr c36
      simp only [Option.some.injEq, Prod.mk.injEq] at H; obtain ⟨rfl, rfl⟩ := H
      go_enter Try.func91, Try.ntmps91
      go_wp2_with (first | ((with_reducible refine gate_dst (N := 5) rfl ?_); refine zE 5 #[.int .i64 a2_0, .int .i64 a2_1, .int .i64 a2_2] 41 ?_; intro gb113 hg w40 hbox hb; have BK113 := Aside0.mk (hbox); have GW113 := zg HB hg; have GE113 := GW113; replace HB := zh HB hb; clear hb hbox hg; obtain ⟨_, _, _, _, _, _⟩ := zc3 BK113))
      go_ret2
      exact ⟨zt, zy HB⟩


/-! ### spec_pzFits: function 76 -/
def spec_pzFits.f (k : Nat) (a0_0 : Int) (a0_1 : Int) (a0_2 : Int) (a1_0 : Int) (a1_1 : Int) (a1_2 : Int) : Option (Bool) := (spec_pzValue.f k a0_0 a0_1 a1_0 a1_1 a1_2).bind fun bt124 => (if bt124.1 = a0_1 then (some (bt124.2 == a0_2)) else (some false))
set_option maxHeartbeats 8000000 in
set_option maxRecDepth 100000 in
theorem spec_pzFits.calls (k : Nat) (a0_0 : Int) (a0_1 : Int) (a0_2 : Int) (a1_0 : Int) (a1_1 : Int) (a1_2 : Int) (r : Bool) (w : World) (h : spec_pzFits.f k a0_0 a0_1 a0_2 a1_0 a1_1 a1_2 = some r) :
  Calls Try.prog 76 #[.agg #[.int .i64 a0_0, .int .i64 a0_1, .int .i64 a0_2], .agg #[.int .i64 a1_0, .int .i64 a1_1, .int .i64 a1_2]] w fun e w' => e = .returned (.bool r) ∧ Below w.heap.size w w' := by
 have hu43 := Try.underlying43; have hu41 := Try.underlying41
 have HB := Aside0.mk (Below.refl w.heap.size w)
 have H : ((spec_pzValue.f k a0_0 a0_1 a1_0 a1_1 a1_2).bind fun bt124 => (if bt124.1 = a0_1 then (some (bt124.2 == a0_2)) else (some false))) = some r := h
 clear h; replace H := Option.bind_eq_some_iff.mp H; obtain ⟨⟨t124, t125⟩, A30, H⟩ := H
 replace H : (if t124 = a0_1 then (some (t125 == a0_2)) else (some false)) = some r := H
 have A3 := Aside0.mk A30; clear A30
 by_cases c4 : t124 = a0_1
 ·rw [if_pos c4] at H
  have c4b0 : (t124 == a0_1) = true := beq_iff_eq.mpr c4
  have c4b1 : (t124 != a0_1) = false := bne_eq_false_iff_eq.mpr c4
  clear c4
  obtain rfl := Option.some.inj H
  go_enter Try.func76, Try.ntmps76
  go_wp2_with (first | ((with_reducible refine gate_dst (N := 2) rfl ?_); refine zE 2 #[.int .i64 a0_0, .int .i64 a0_1, .int .i64 a0_2] 43 ?_; intro gb122 hg w5 hbox hb; have BK122 := Aside0.mk (hbox); have GW122 := zg HB hg; have GE122 := GW122; replace HB := zh HB hb; clear hb hbox hg) | ((with_reducible refine gate_dst (N := 3) rfl ?_); refine zE 3 #[.int .i64 a1_0, .int .i64 a1_1, .int .i64 a1_2] 41 ?_; intro gb123 hg w6 hbox hb; have BK123 := Aside0.mk (hbox); have GW123 := zg HB hg; have GE123 := GW123; have NB122_123 := zl BK122 hg; have NB123_122 := zr BK122 hg; replace BK122 := zb BK122 hb; replace HB := zh HB hb; clear hb hbox hg; have hnb7 := NB122_123.out; have hnc7 := NB123_122.out; obtain ⟨_, _, _, _, _, _⟩ := zc3 BK122; obtain ⟨_, _, _, _, _, _⟩ := zc3 BK123) | ((with_reducible refine gate_callee (f := 91) rfl ?_); refine zG (some 13) Try.func91 #[.int .i64 a0_0, .int .i64 a0_1, .agg #[.int .i64 a1_0, .int .i64 a1_1, .int .i64 a1_2]] ?_; (with_reducible refine (spec_pzValue.calls k a0_0 a0_1 a1_0 a1_1 a1_2 t124 t125 _ A3.out).mono ?_); rintro e w10 ⟨rfl, hb⟩; refine ⟨_, rfl, ?_⟩; replace BK122 := zb BK122 hb; replace BK123 := zb BK123 hb; replace HB := zh HB hb; clear hb; obtain ⟨_, _, _, _, _, _⟩ := zc3 BK122))
  go_ret
  exact ⟨zt, zy HB⟩
 ·rw [if_neg c4] at H
  have c4b0 : (t124 == a0_1) = false := beq_eq_false_iff_ne.mpr c4
  have c4b1 : (t124 != a0_1) = true := bne_iff_ne.mpr c4
  obtain rfl := Option.some.inj H
  go_enter Try.func76, Try.ntmps76
  go_wp2_with (first | ((with_reducible refine gate_dst (N := 2) rfl ?_); refine zE 2 #[.int .i64 a0_0, .int .i64 a0_1, .int .i64 a0_2] 43 ?_; intro gb122 hg w12 hbox hb; have BK122 := Aside0.mk (hbox); have GW122 := zg HB hg; have GE122 := GW122; replace HB := zh HB hb; clear hb hbox hg) | ((with_reducible refine gate_dst (N := 3) rfl ?_); refine zE 3 #[.int .i64 a1_0, .int .i64 a1_1, .int .i64 a1_2] 41 ?_; intro gb123 hg w13 hbox hb; have BK123 := Aside0.mk (hbox); have GW123 := zg HB hg; have GE123 := GW123; have NB122_123 := zl BK122 hg; have NB123_122 := zr BK122 hg; replace BK122 := zb BK122 hb; replace HB := zh HB hb; clear hb hbox hg; have hnb14 := NB122_123.out; have hnc14 := NB123_122.out; obtain ⟨_, _, _, _, _, _⟩ := zc3 BK122; obtain ⟨_, _, _, _, _, _⟩ := zc3 BK123) | ((with_reducible refine gate_callee (f := 91) rfl ?_); refine zG (some 13) Try.func91 #[.int .i64 a0_0, .int .i64 a0_1, .agg #[.int .i64 a1_0, .int .i64 a1_1, .int .i64 a1_2]] ?_; (with_reducible refine (spec_pzValue.calls k a0_0 a0_1 a1_0 a1_1 a1_2 t124 t125 _ A3.out).mono ?_); rintro e w17 ⟨rfl, hb⟩; refine ⟨_, rfl, ?_⟩; replace BK122 := zb BK122 hb; replace BK123 := zb BK123 hb; replace HB := zh HB hb; clear hb; obtain ⟨_, _, _, _, _, _⟩ := zc3 BK122))
  go_ret
  exact ⟨zt, zy HB⟩


/-! ### spec_pzAll: function 55 -/
mutual
def spec_pzAll.l0 : Nat → Int → List (S43) → List (S41) → Int → Option ((List (S41)))
 | 0, _, _, _, _ => none
 | k + 1, x0, x1, x5, x6 => if x6 ≤ 12 then (spec_pzAll.l1 k x0 x1 x5 x6 1) else (some x5)
def spec_pzAll.l1 : Nat → Int → List (S43) → List (S41) → Int → Int → Option ((List (S41)))
 | 0, _, _, _, _, _ => none
 | k + 1, x0, x1, x5, x6, x7 => if x7 ≤ 12 then (spec_pzAll.l2 k x0 x1 x5 x6 x7 true x1 (x1.length : Int) 0 x0 x6 x7) else (spec_pzAll.l0 k x0 x1 x5 (wrap64 (x6 + 1)))
def spec_pzAll.l2 : Nat → Int → List (S43) → List (S41) → Int → Int → Bool → List (S43) → Int → Int → Int → Int → Int → Option ((List (S41)))
 | 0, _, _, _, _, _, _, _, _, _, _, _, _ => none
 | k + 1, x0, x1, x5, x6, x7, x9, x24, x25, x26, x127000, x127001, x127002 => if x26 < x25 then (if 0 ≤ x26 then (if x26 < (x24.length : Int) then (if x9 = true then ((spec_pzFits.f k ((rd_T43 x24 x26).f0) ((rd_T43 x24 x26).f1) ((rd_T43 x24 x26).f2) x127000 x127001 x127002).bind fun t129 => (spec_pzAll.l2 k x0 x1 x5 x6 x7 t129 x24 x25 (wrap64 (x26 + 1)) x127000 x127001 x127002)) else (spec_pzAll.l2 k x0 x1 x5 x6 x7 false x24 x25 (wrap64 (x26 + 1)) x127000 x127001 x127002)) else (none)) else (none)) else (if x9 = true then (if x5.length < 5864062014805 then (spec_pzAll.l1 k x0 x1 (x5 ++ [(⟨x127000, x127001, x127002⟩ : S41)]) x6 (wrap64 (x7 + 1))) else (none)) else (spec_pzAll.l1 k x0 x1 x5 x6 (wrap64 (x7 + 1))))
end
def spec_pzAll.f (k : Nat) (a0 : Int) (l1 : List (S43)) : Option ((List (S41))) := spec_pzAll.l0 k a0 l1 ([] : List (S41)) 1
set_option maxHeartbeats 8000000 in
set_option maxRecDepth 100000 in
theorem spec_pzAll.calls (k : Nat) (a0 : Int) (A1 : Option Addr) (c1 : Nat) (l1 : List (S43)) (r : List (S41)) (w : World) (hr1 : Kd.C k43 w A1 l1.length l1) (hc1 : l1.length ≤ c1) (h : spec_pzAll.f k a0 l1 = some r) :
  Calls Try.prog 55 #[.int .i64 a0, .slice A1 l1.length c1] w fun e w' => ∃ v0_ : Value, e = .returned (v0_) ∧ Kd.R k41 41 w' w.heap.size (fun _ => True) v0_ r ∧ Below w.heap.size w w' := by
 have hu41 := Try.underlying41; have hu43 := Try.underlying43; have HR1 := Aside0.mk hr1; have HC1 := Aside0.mk hc1; clear hr1 hc1
 have HB := Aside0.mk (Below.refl w.heap.size w)
 have H : (spec_pzAll.l0 k a0 l1 ([] : List (S41)) 1) = some r := h
 clear h; have H' := Aside0.mk H; clear H
 go_enter Try.func55, Try.ntmps55
 go_wp2
 go_loopg [5, 6] k (fun kq v5 v6 w' => ∃ (x5_1 : List (S41)) (x6_1 : Int), v6 = .int .i64 x6_1 ∧ Aside0 (spec_pzAll.l0 kq a0 l1 x5_1 x6_1 = some r) ∧ Aside0 (kq ≤ k) ∧ Aside0 (Kd.R k41 41 w' w.heap.size (fun _ => True) v5 x5_1) ∧ Aside0 (Below w.heap.size w w'))
 case atStart => exact ⟨(([] : List (S41))), (1), zu, H', ⟨Nat.le_refl _⟩, ⟨by first | exact Kd.R_nil _ _ _ _ _ | exact Kd.N_nil _ _ _ _ _ | exact Kd.V_nil _ _ _ _ _ | exact Kd.Q_nil _ _ _ _ _ | exact Kd.S_nil _ _ _ _ _⟩, ⟨zy HB⟩⟩
 case round =>
  clear H'
  obtain ⟨x5_1, x6_1, rfl, HA, HK1, HO_5, HB⟩ := hrel
  cases gk with
  | zero => exact absurd HA.out (by simp [spec_pzAll.l0])
  | succ k1 =>
   have H := HA.out; clear HA; simp only [spec_pzAll.l0] at H
   by_cases c3 : x6_1 ≤ 12
   ·rw [if_pos c3] at H
    have c3b0 : decide (x6_1 ≤ 12) = true := decide_eq_true c3; clear c3; have H' := Aside0.mk H; clear H
    go_wp2
    go_loopg [5, 7] k1 (fun kq v5 v7 w' => ∃ (x5_2 : List (S41)) (x7_2 : Int), v7 = .int .i64 x7_2 ∧ Aside0 (spec_pzAll.l1 kq a0 l1 x5_2 x6_1 x7_2 = some r) ∧ Aside0 (kq ≤ k1) ∧ Aside0 (Kd.R k41 41 w' w.heap.size (fun _ => True) v5 x5_2) ∧ Aside0 (Below w.heap.size w w'))
    case atStart => exact ⟨(x5_1), (1), zu, H', ⟨Nat.le_refl _⟩, zp HO_5, ⟨zy HB⟩⟩
    case round =>
     clear H'
     obtain ⟨x5_2, x7_2, rfl, HA, HK2, HO_5, HB⟩ := hrel
     cases gk with
     | zero => exact absurd HA.out (by simp [spec_pzAll.l1])
     | succ k2 =>
      have H := HA.out; clear HA; simp only [spec_pzAll.l1] at H
      by_cases c4 : x7_2 ≤ 12
      ·rw [if_pos c4] at H
       have c4b0 : decide (x7_2 ≤ 12) = true := decide_eq_true c4; clear c4; have H' := Aside0.mk H; clear H
       go_wp2_with (first | ((with_reducible refine gate_dst (N := 8) rfl ?_); refine zE 8 #[.int .i64 0, .int .i64 0, .int .i64 0] 41 ?_; intro gb126 hg w5 hbox hb; have n0_ := Aside0.mk (Kd.R_below (Kd.R_elderB (zs HO_5) gb126 (Nat.le_of_eq hg.symm)) hb); have BK126 := Aside0.mk (hbox); have GW126 := zg HB hg; have GE126 := GW126; replace HB := zh HB hb; clear HO_5; have HO_5 := n0_; clear n0_; clear hb hbox hg; obtain ⟨_, _, _, _, _, _⟩ := zc3 BK126))
       go_loopg [9, 26] k2 (fun kq v9 v26 w' => ∃ (x9_3 : Bool) (x26_3 : Int), v9 = .bool x9_3 ∧ v26 = .int .i64 x26_3 ∧ Aside0 (spec_pzAll.l2 kq a0 l1 x5_2 x6_1 x7_2 x9_3 l1 (l1.length : Int) x26_3 a0 x6_1 x7_2 = some r) ∧ Aside0 (kq ≤ k2) ∧ Aside0 (Kd.R k41 41 w' w.heap.size (fun k_ => k_ ≠ gb126) u5 x5_2) ∧ Aside0 (w'.heap[gb126]? = some (.cells #[.int .i64 a0, .int .i64 x6_1, .int .i64 x7_2] 41 (0, 0))) ∧ Aside0 (Below w.heap.size w w'))
       case atStart => exact ⟨(true), (0), zu, zu, H', ⟨Nat.le_refl _⟩, ⟨by (with_reducible repeat (first | apply Kd.R_alloc | apply Kd.R_drewN | apply Kd.R_drew)); exact Kd.R_mono (Kd.R_far (p := ⟨gb126, 2, none⟩) (Kd.R_far (p := ⟨gb126, 1, none⟩) (Kd.R_far (p := ⟨gb126, 0, none⟩) (Kd.R_mono HO_5.out (fun k_ hk => (⟨hk, hk.2⟩ : _ ∧ k_ ≠ gb126))) (fun _ hk => hk.2) (.int .i64 a0)) (fun _ hk => hk.2) (.int .i64 x6_1)) (fun _ hk => hk.2) (.int .i64 x7_2)) (fun _ hk => hk.1.2)⟩, ⟨zw BK126⟩, ⟨zy HB⟩⟩
       case round =>
        clear H'
        obtain ⟨x9_3, x26_3, rfl, rfl, HA, HK3, HO_5, BK126, HB⟩ := hrel
        cases gk with
        | zero => exact absurd HA.out (by simp [spec_pzAll.l2])
        | succ k3 =>
         have H := HA.out; clear HA; simp only [spec_pzAll.l2] at H
         by_cases c7 : x26_3 < (l1.length : Int)
         ·rw [if_pos c7] at H
          have c7b0 : decide (x26_3 < (l1.length : Int)) = true := decide_eq_true c7; clear c7
          by_cases c8 : 0 ≤ x26_3
          ·rw [if_pos c8] at H
           have c8b0 : decide (0 ≤ x26_3) = true := decide_eq_true c8; clear c8
           by_cases c9 : x26_3 < (l1.length : Int)
           ·rw [if_pos c9] at H
            have c9b0 : decide (x26_3 < (l1.length : Int)) = true := decide_eq_true c9; clear c9
            by_cases c10 : x9_3 = true
            ·subst c10
             rw [if_pos rfl] at H; replace H := Option.bind_eq_some_iff.mp H; obtain ⟨t129, A110, H⟩ := H
             replace H : (spec_pzAll.l2 k3 a0 l1 x5_2 x6_1 x7_2 t129 l1 (l1.length : Int) (wrap64 (x26_3 + 1)) a0 x6_1 x7_2) = some r := H
             have A11 := Aside0.mk A110; clear A110; have H' := Aside0.mk H; clear H
             have p127 : 0 ≤ (x26_3 : Int) := of_decide_eq_true zO0_1
             have q127 : x26_3 < (l1.length : Int) := of_decide_eq_true zO0_1
             obtain ⟨ad127, e127, hx127_0, hx127_1, hx127_2⟩ := at_T43 HR1.out x26_3 p127 q127
             cases e127
             replace hx127_0 := (HB.out.cell (World.block_lt_of_cell? w _ hx127_0)).trans hx127_0
             replace hx127_1 := (HB.out.cell (World.block_lt_of_cell? w _ hx127_1)).trans hx127_1
             replace hx127_2 := (HB.out.cell (World.block_lt_of_cell? w _ hx127_2)).trans hx127_2
             replace p127 := eq_true p127; replace q127 := eq_true q127
             go_wp2_with (first | ((with_reducible refine gate_dst (N := 11) rfl ?_); refine zE 11 #[.int .i64 0, .int .i64 0, .int .i64 0] 43 ?_; intro gb128 hg w12 hbox hb; have BK128 := Aside0.mk (hbox); have GW128 := zg HB hg; have GE128 := GW128; have NB126_128 := zl BK126 hg; have NB128_126 := zr BK126 hg; replace HO_5 := zo HO_5 hb; replace BK126 := zb BK126 hb; replace HB := zh HB hb; clear hb hbox hg; have hnb13 := NB128_126.out; have hnc13 := NB126_128.out; obtain ⟨_, _, _, _, _, _⟩ := zc3 BK128; obtain ⟨_, _, _, _, _, _⟩ := zc3 BK126) | (go_at_call 76; (with_reducible refine (spec_pzFits.calls k3 ((rd_T43 l1 x26_3).f0) ((rd_T43 l1 x26_3).f1) ((rd_T43 l1 x26_3).f2) a0 x6_1 x7_2 t129 _ A11.out).mono ?_); rintro e w16 ⟨rfl, hb⟩; have n0_ := Aside0.mk (Kd.R_below (by (with_reducible repeat (first | apply Kd.R_alloc | apply Kd.R_drewN | apply Kd.R_drew)); exact (Kd.R_mono (Kd.R_far (p := ⟨gb128, 2, none⟩) (Kd.R_far (p := ⟨gb128, 1, none⟩) (Kd.R_far (p := ⟨gb128, 0, none⟩) (Kd.R_types HO_5.out BK128.out (by decide)) (fun _ hk => hk.2) (.int .i64 ((rd_T43 l1 x26_3).f0))) (fun _ hk => hk.2) (.int .i64 ((rd_T43 l1 x26_3).f1))) (fun _ hk => hk.2) (.int .i64 ((rd_T43 l1 x26_3).f2))) (fun _ h_ => h_.1))) hb); have n2_ := Aside0.mk (blk_below (g := gb128) (o := .cells #[.int .i64 ((rd_T43 l1 x26_3).f0), .int .i64 ((rd_T43 l1 x26_3).f1), .int .i64 ((rd_T43 l1 x26_3).f2)] 43 (0, 0)) (zw BK128) hb); replace BK126 := zb BK126 hb; replace HB := zh HB hb; clear HO_5; have HO_5 := n0_; clear n0_; clear BK128; have BK128 := n2_; clear n2_; clear hb))
             go_roundg k3
             case measure => have := HK1.out; have := HK2.out; have := HK3.out; omega
             case rel => exact ⟨(t129), (wrap64 (x26_3 + 1)), zu, zu, H', ⟨by have := HK1.out; have := HK2.out; have := HK3.out; omega⟩, zp HO_5, zk BK126, ⟨zy HB⟩⟩
            ·replace c10 := Bool.eq_false_iff.mpr c10
             subst c10; rw [if_neg (show ¬ (false = true) by decide)] at H; have H' := Aside0.mk H; clear H
             have p127 : 0 ≤ (x26_3 : Int) := of_decide_eq_true zO0_1
             have q127 : x26_3 < (l1.length : Int) := of_decide_eq_true zO0_1
             obtain ⟨ad127, e127, hx127_0, hx127_1, hx127_2⟩ := at_T43 HR1.out x26_3 p127 q127
             cases e127
             replace hx127_0 := (HB.out.cell (World.block_lt_of_cell? w _ hx127_0)).trans hx127_0
             replace hx127_1 := (HB.out.cell (World.block_lt_of_cell? w _ hx127_1)).trans hx127_1
             replace hx127_2 := (HB.out.cell (World.block_lt_of_cell? w _ hx127_2)).trans hx127_2
             replace p127 := eq_true p127; replace q127 := eq_true q127
             go_wp2_with (first | ((with_reducible refine gate_dst (N := 11) rfl ?_); refine zE 11 #[.int .i64 0, .int .i64 0, .int .i64 0] 43 ?_; intro gb128 hg w17 hbox hb; have BK128 := Aside0.mk (hbox); have GW128 := zg HB hg; have GE128 := GW128; have NB126_128 := zl BK126 hg; have NB128_126 := zr BK126 hg; replace HO_5 := zo HO_5 hb; replace BK126 := zb BK126 hb; replace HB := zh HB hb; clear hb hbox hg; have hnb18 := NB128_126.out; have hnc18 := NB126_128.out; obtain ⟨_, _, _, _, _, _⟩ := zc3 BK128))
             go_roundg k3
             case measure => have := HK1.out; have := HK2.out; have := HK3.out; omega
             case rel => exact ⟨(false), (wrap64 (x26_3 + 1)), zu, zu, H', ⟨by have := HK1.out; have := HK2.out; have := HK3.out; omega⟩, ⟨by (with_reducible repeat (first | apply Kd.R_alloc | apply Kd.R_drewN | apply Kd.R_drew)); exact Kd.R_mono (Kd.R_far (p := ⟨gb128, 2, none⟩) (Kd.R_far (p := ⟨gb128, 1, none⟩) (Kd.R_far (p := ⟨gb128, 0, none⟩) (Kd.R_types HO_5.out BK128.out (by decide)) (fun _ hk => hk.2) (.int .i64 ((rd_T43 l1 x26_3).f0))) (fun _ hk => hk.2) (.int .i64 ((rd_T43 l1 x26_3).f1))) (fun _ hk => hk.2) (.int .i64 ((rd_T43 l1 x26_3).f2))) (fun _ hk => hk.1)⟩, zk BK126, ⟨zy HB⟩⟩
           ·rw [if_neg c9] at H
            exact absurd H zO0_3
          ·rw [if_neg c8] at H
           exact absurd H zO0_3
         ·rw [if_neg c7] at H
          have c7b0 : decide (x26_3 < (l1.length : Int)) = false := decide_eq_false c7; clear c7
          by_cases c20 : x9_3 = true
          ·subst c20
           rw [if_pos rfl] at H
           by_cases c21 : x5_2.length < 5864062014805
           ·rw [if_pos c21] at H
            have LMc21 := Aside0.mk c21; clear c21
            obtain ⟨y130, hy130⟩ : ∃ y_ : List (S41), y_ = (x5_2 ++ [(⟨a0, x6_1, x7_2⟩ : S41)]) := ⟨_, rfl⟩
            replace H : (spec_pzAll.l1 k3 a0 l1 y130 x6_1 (wrap64 (x7_2 + 1))) = some r := by first | (rw [hy130]; with_reducible exact H) | (have H2_ := (Option.bind_some _ _).symm.trans H; rw [hy130]; with_reducible exact H2_) | (have H2_ := (Option.bind_some _ _).symm.trans H; with_reducible exact H2_) | with_reducible exact H | (rw [hy130]; exact H) | exact H
            have Ny130 := Aside0.mk hy130; clear hy130; have H' := Aside0.mk H; clear H
            obtain ⟨_, _, _, _, _, _⟩ := zc3 BK126
            go_wp2_with (first | ((with_reducible refine gate_builtin (b := .append) (xs := #[.tmp 38, .tmp 40]) rfl ?_); at_builtin; refine Kd.R_append k41 (w0 := w) w.heap.size rfl (.tmp 38) (.tmp 40) 51 41 (.agg #[(.int .i64 0), (.int .i64 0), (.int .i64 0)]) 24 rfl Try.underlying51 info41 rfl (by decide) (by omega) u5 x5_2 (⟨a0, x6_1, x7_2⟩ : S41) [.int .i64 a0, .int .i64 x6_1, .int .i64 x7_2] (fun k_ => k_ ≠ gb126) (fun _ => False) rfl rfl ?aP (fun _ hk => hk.elim) ?aF ?aO ?aB ?aS ?aL ?_; (case aP => exact k41_mkM _ _ _ (⟨a0, x6_1, x7_2⟩ : S41)); (case aB => exact (zy HB)); (case aF => exact (fun k_ hk => Kd.freshB (zq BK126) k_ hk)); (case aO => exact (zs HO_5)); (case aS => exact (below_size (zy HB))); (case aL => have := LMc21.out; omega); intro v131 w23 ho hb hg hat; rw [← Ny130.out] at ho; have n0_ := Aside0.mk (blk_grown (zq BK126) hg (Kd.R_away HO_5.out (fun _ hk => hk))); have HO132 := Aside0.mk (ho); replace HB := Aside0.mk hb; clear HO_5; clear BK126; have BK126 := n0_; clear n0_; clear ho hb hg hat))
            go_roundg k3
            case measure => have := HK1.out; have := HK2.out; have := HK3.out; omega
            case rel => exact ⟨(y130), (wrap64 (x7_2 + 1)), zu, H', ⟨by have := HK1.out; have := HK2.out; have := HK3.out; omega⟩, ⟨by (with_reducible repeat (first | apply Kd.R_alloc | apply Kd.R_drewN | apply Kd.R_drew)); exact Kd.R_mono HO132.out (fun _ hk => trivial)⟩, ⟨zy HB⟩⟩
           ·rw [if_neg c21] at H
            exact absurd H zO0_3
          ·replace c20 := Bool.eq_false_iff.mpr c20
           subst c20; rw [if_neg (show ¬ (false = true) by decide)] at H; have H' := Aside0.mk H; clear H
           go_wp2
           go_roundg k3
           case measure => have := HK1.out; have := HK2.out; have := HK3.out; omega
           case rel => exact ⟨(x5_2), (wrap64 (x7_2 + 1)), zu, H', ⟨by have := HK1.out; have := HK2.out; have := HK3.out; omega⟩, ⟨by (with_reducible repeat (first | apply Kd.R_alloc | apply Kd.R_drewN | apply Kd.R_drew)); exact Kd.R_mono HO_5.out (fun _ hk => trivial)⟩, ⟨zy HB⟩⟩
      ·rw [if_neg c4] at H
       have c4b0 : decide (x7_2 ≤ 12) = false := decide_eq_false c4; clear c4; have H' := Aside0.mk H; clear H
       go_wp2
       go_roundg k2
       case measure => have := HK1.out; have := HK2.out; omega
       case rel => exact ⟨(x5_2), (wrap64 (x6_1 + 1)), zu, H', ⟨by have := HK1.out; have := HK2.out; omega⟩, zp HO_5, ⟨zy HB⟩⟩
   ·rw [if_neg c3] at H
    have c3b0 : decide (x6_1 ≤ 12) = false := decide_eq_false c3; clear c3
    obtain rfl := Option.some.inj H
    go_wp2
    go_ret
    exact ⟨_, zt, by (with_reducible repeat (first | apply Kd.R_alloc | apply Kd.R_drewN | apply Kd.R_drew)); exact HO_5.out, zy HB⟩


/-! ### spec_pzSolved: function 46 -/
def spec_pzSolved.f (k : Nat) (a0 : Int) (l1 : List (S43)) : Option (Bool) := (spec_pzAll.f k a0 l1).bind fun t133 => (some ((t133.length : Int) == 1))
set_option maxHeartbeats 8000000 in
set_option maxRecDepth 100000 in
theorem spec_pzSolved.calls (k : Nat) (a0 : Int) (A1 : Option Addr) (c1 : Nat) (l1 : List (S43)) (r : Bool) (w : World) (hr1 : Kd.C k43 w A1 l1.length l1) (hc1 : l1.length ≤ c1) (h : spec_pzSolved.f k a0 l1 = some r) :
  Calls Try.prog 46 #[.int .i64 a0, .slice A1 l1.length c1] w fun e w' => e = .returned (.bool r) ∧ Below w.heap.size w w' := by
 have HR1 := Aside0.mk hr1; have HC1 := Aside0.mk hc1; clear hr1 hc1
 have HB := Aside0.mk (Below.refl w.heap.size w)
 have H : ((spec_pzAll.f k a0 l1).bind fun t133 => (some ((t133.length : Int) == 1))) = some r := h
 clear h; replace H := Option.bind_eq_some_iff.mp H; obtain ⟨t133, A30, H⟩ := H
 replace H : (some ((t133.length : Int) == 1)) = some r := H
 have A3 := Aside0.mk A30; clear A30
 obtain rfl := Option.some.inj H
 go_enter Try.func46, Try.ntmps46
 go_wp2_with (first | ((with_reducible refine gate_callee (f := 55) rfl ?_); refine zG (some 7) Try.func55 #[.int .i64 a0, .slice A1 l1.length c1] ?_; (with_reducible refine (spec_pzAll.calls k a0 _ _ l1 t133 _ ?side1 ?side2 A3.out).mono ?_); (case side1 => repeat (first | exact HR1.out | (with_reducible refine Kd.C_alloc ?_ _) | (with_reducible refine Kd.C_drewN ?_ _) | (with_reducible refine Kd.C_drew ?_))); (case side2 => exact HC1.out); rintro e w4 ⟨v134, rfl, ho0, hb⟩; refine ⟨_, rfl, ?_⟩; have HO135 := Aside0.mk (Kd.R_lower ho0 (below_size (zy HB))); replace HB := zh HB hb; clear hb ho0; obtain ⟨Ao5, co5, eo5⟩ := Kd.R_slice HO135.out; subst eo5))
 go_ret
 exact ⟨zt, zy HB⟩


/-! ### spec_pzWithout: function 47 -/
def spec_pzWithout.f (l0 : List (S43)) (a1 : Int) : Option ((List (S43))) := (some (([] : List (S43)) : List (S43))).bind fun y136 => (if 0 ≤ a1 then (if a1 ≤ (l0.length : Int) then ((some (l0.take (a1 : Int).toNat : List (S43))).bind fun y139 => (if y136.length + y139.length < 5864062014805 then ((some (y136 ++ y139 : List (S43))).bind fun y143 => (if 0 ≤ (wrap64 (a1 + 1)) then (if (wrap64 (a1 + 1)) ≤ (l0.length : Int) then ((some (l0.drop ((wrap64 (a1 + 1)) : Int).toNat : List (S43))).bind fun y146 => (if y143.length + y146.length < 5864062014805 then (some (y143 ++ y146)) else (none))) else (none)) else (none))) else (none))) else (none)) else (none))
def spec_pzWithout.T1 : Bool × List (List Nat × List Nat) := (true, [([], []), ([], []), ([], []), ([1, 2], [1, 2]), ([0, 3], [0, 3]), ([], []), ([], []), ([6], [6]), ([5, 7], [5, 7]), ([4, 8, 4], [4, 8]), ([9, 9, 0, 1, 2, 3, 4, 5, 6, 7, 8, 9], [9])])
def spec_pzWithout.B1 : List Nat := [0, 0, 0, 6, 15, 0, 0, 64, 224, 511, 1023]
theorem spec_pzWithout.tab1 : rtab .any (opsOf Try.f47 1) = spec_pzWithout.T1 := by kernel_rfl
theorem spec_pzWithout.bits1 : waitsOk spec_pzWithout.T1.2 spec_pzWithout.B1 = true := by kernel_rfl
set_option maxHeartbeats 8000000 in
set_option maxRecDepth 100000 in
theorem spec_pzWithout.calls (A0 : Option Addr) (c0 : Nat) (l0 : List (S43)) (a1 : Int) (r : List (S43)) (w : World) (hr0 : Kd.C k43 w A0 l0.length l0) (hc0 : l0.length ≤ c0) (h : spec_pzWithout.f l0 a1 = some r) :
  Calls Try.prog 47 #[.slice A0 l0.length c0, .int .i64 a1] w fun e w' => ∃ v0_ : Value, e = .returned (v0_) ∧ Kd.R k43 43 w' w.heap.size (fun _ => True) v0_ r ∧ Below w.heap.size w w' := by
 have HR0 := Aside0.mk hr0; have HC0 := Aside0.mk hc0; clear hr0 hc0
 have HB := Aside0.mk (Below.refl w.heap.size w)
 have H : ((some (([] : List (S43)) : List (S43))).bind fun y136 => (if 0 ≤ a1 then (if a1 ≤ (l0.length : Int) then ((some (l0.take (a1 : Int).toNat : List (S43))).bind fun y139 => (if y136.length + y139.length < 5864062014805 then ((some (y136 ++ y139 : List (S43))).bind fun y143 => (if 0 ≤ (wrap64 (a1 + 1)) then (if (wrap64 (a1 + 1)) ≤ (l0.length : Int) then ((some (l0.drop ((wrap64 (a1 + 1)) : Int).toNat : List (S43))).bind fun y146 => (if y143.length + y146.length < 5864062014805 then (some (y143 ++ y146)) else (none))) else (none)) else (none))) else (none))) else (none)) else (none))) = some r := h
 clear h
 obtain ⟨y136, hy136⟩ : ∃ y_ : List (S43), y_ = (([] : List (S43))) := ⟨_, rfl⟩
 replace H : (if 0 ≤ a1 then (if a1 ≤ (l0.length : Int) then ((some (l0.take (a1 : Int).toNat : List (S43))).bind fun y139 => (if y136.length + y139.length < 5864062014805 then ((some (y136 ++ y139 : List (S43))).bind fun y143 => (if 0 ≤ (wrap64 (a1 + 1)) then (if (wrap64 (a1 + 1)) ≤ (l0.length : Int) then ((some (l0.drop ((wrap64 (a1 + 1)) : Int).toNat : List (S43))).bind fun y146 => (if y143.length + y146.length < 5864062014805 then (some (y143 ++ y146)) else (none))) else (none)) else (none))) else (none))) else (none)) else (none)) = some r := by first | (rw [hy136]; with_reducible exact H) | (have H2_ := (Option.bind_some _ _).symm.trans H; rw [hy136]; with_reducible exact H2_) | (have H2_ := (Option.bind_some _ _).symm.trans H; with_reducible exact H2_) | with_reducible exact H | (rw [hy136]; exact H) | exact H
 have Ny136 := Aside0.mk hy136; clear hy136
 by_cases c3 : 0 ≤ a1
 ·rw [if_pos c3] at H
  have c3b0 := eq_true c3
  have c3b1 : decide (0 ≤ a1) = true := decide_eq_true c3
  clear c3
  by_cases c4 : a1 ≤ (l0.length : Int)
  ·rw [if_pos c4] at H
   have c4b0 := eq_true c4
   have c4b1 : decide (a1 ≤ (l0.length : Int)) = true := decide_eq_true c4
   clear c4
   obtain ⟨y139, hy139⟩ : ∃ y_ : List (S43), y_ = (l0.take (a1 : Int).toNat) := ⟨_, rfl⟩
   replace H : (if y136.length + y139.length < 5864062014805 then ((some (y136 ++ y139 : List (S43))).bind fun y143 => (if 0 ≤ (wrap64 (a1 + 1)) then (if (wrap64 (a1 + 1)) ≤ (l0.length : Int) then ((some (l0.drop ((wrap64 (a1 + 1)) : Int).toNat : List (S43))).bind fun y146 => (if y143.length + y146.length < 5864062014805 then (some (y143 ++ y146)) else (none))) else (none)) else (none))) else (none)) = some r := by first | (rw [hy139]; with_reducible exact H) | (have H2_ := (Option.bind_some _ _).symm.trans H; rw [hy139]; with_reducible exact H2_) | (have H2_ := (Option.bind_some _ _).symm.trans H; with_reducible exact H2_) | with_reducible exact H | (rw [hy139]; exact H) | exact H
   have Ny139 := Aside0.mk hy139; clear hy139
   by_cases c5 : y136.length + y139.length < 5864062014805
   ·rw [if_pos c5] at H
    have LMc5 := Aside0.mk c5; clear c5
    obtain ⟨y143, hy143⟩ : ∃ y_ : List (S43), y_ = (y136 ++ y139) := ⟨_, rfl⟩
    replace H : (if 0 ≤ (wrap64 (a1 + 1)) then (if (wrap64 (a1 + 1)) ≤ (l0.length : Int) then ((some (l0.drop ((wrap64 (a1 + 1)) : Int).toNat : List (S43))).bind fun y146 => (if y143.length + y146.length < 5864062014805 then (some (y143 ++ y146)) else (none))) else (none)) else (none)) = some r := by first | (rw [hy143]; with_reducible exact H) | (have H2_ := (Option.bind_some _ _).symm.trans H; rw [hy143]; with_reducible exact H2_) | (have H2_ := (Option.bind_some _ _).symm.trans H; with_reducible exact H2_) | with_reducible exact H | (rw [hy143]; exact H) | exact H
    have Ny143 := Aside0.mk hy143; clear hy143
    obtain ⟨ji6, hji6⟩ : ∃ j_ : Int, (wrap64 (a1 + 1)) = j_ := ⟨_, rfl⟩
    replace H : (if 0 ≤ (ji6) then (if (ji6) ≤ (l0.length : Int) then ((some (l0.drop ((ji6) : Int).toNat : List (S43))).bind fun y146 => (if y143.length + y146.length < 5864062014805 then (some (y143 ++ y146)) else (none))) else (none)) else (none)) = some r := by first | (rw [hji6] at H; exact H) | (simp only [hji6] at H ⊢; exact H)
    have hji6w : (IntKind.i64.wrap (a1 + 1)) = ji6 := (i64_w _).trans hji6
    by_cases c7 : 0 ≤ (ji6)
    ·rw [if_pos c7] at H
     have c7b0 := eq_true c7
     have c7b1 : decide (0 ≤ (ji6)) = true := decide_eq_true c7
     clear c7
     by_cases c8 : (ji6) ≤ (l0.length : Int)
     ·rw [if_pos c8] at H
      have c8b0 := eq_true c8
      have c8b1 : decide ((ji6) ≤ (l0.length : Int)) = true := decide_eq_true c8
      clear c8
      obtain ⟨y146, hy146⟩ : ∃ y_ : List (S43), y_ = (l0.drop ((ji6) : Int).toNat) := ⟨_, rfl⟩
      replace H : (if y143.length + y146.length < 5864062014805 then (some (y143 ++ y146)) else (none)) = some r := by first | (rw [hy146]; with_reducible exact H) | (have H2_ := (Option.bind_some _ _).symm.trans H; rw [hy146]; with_reducible exact H2_) | (have H2_ := (Option.bind_some _ _).symm.trans H; with_reducible exact H2_) | with_reducible exact H | (rw [hy146]; exact H) | exact H
      have Ny146 := Aside0.mk hy146; clear hy146
      by_cases c9 : y143.length + y146.length < 5864062014805
      ·rw [if_pos c9] at H
       have LMc9 := Aside0.mk c9; clear c9
       obtain ⟨y150, hy150⟩ : ∃ y_ : List (S43), y_ = (y143 ++ y146) := ⟨_, rfl⟩
       replace H : (some y150) = some r := by first | (rw [hy150]; with_reducible exact H) | (have H2_ := (Option.bind_some _ _).symm.trans H; rw [hy150]; with_reducible exact H2_) | (have H2_ := (Option.bind_some _ _).symm.trans H; with_reducible exact H2_) | with_reducible exact H | (rw [hy150]; exact H) | exact H
       have Ny150 := Aside0.mk hy150; clear hy150
       obtain rfl := Option.some.inj H
       go_enter Try.func47, Try.ntmps47
       try go_wp2
       replace HB := Aside0.mk (below_drew1 HB.out)
       have q11 : (a1 : Int) ≤ ((l0.length : Int) : Int) := of_decide_eq_true zO0_1
       obtain ⟨i011, hi011, _, hsz11, _⟩ := info_parts info43
       have hroom11 : l0.length ≤ c0 := HC0.out
       have hC11 : Kd.C k43 _ A0 l0.length l0 := HR0.out
       have hcut11 := cut_to (P := Try.prog) 26 43 .i64 Try.underlying26 hi011 A0 l0.length c0 a1 (of_decide_eq_true zO0_1) q11 hroom11
       have hr11 := Kd.C_take (m := (a1 : Int).toNat) hC11 (by omega)
       have hy11 : y139.length = (a1 : Int).toNat := (by rw [Ny139.out, List.length_take]; omega)
       rw [← Ny139.out] at hr11
       rw [← hy11] at hcut11
       have HR142 := Aside0.mk hr11
       have HC142 := Aside0.mk (show y139.length ≤ c0 from by omega)
       clear hr11 hC11 hroom11 hi011 hsz11; have KY11 := Aside0.mk hy11; clear hy11; replace q11 := eq_true q11
       have q12 : ((ji6) : Int) ≤ ((l0.length : Int) : Int) := of_decide_eq_true zO0_1
       obtain ⟨i012, hi012, _, hsz12, _⟩ := info_parts info43
       have hroom12 : l0.length ≤ c0 := HC0.out
       have hC12 : Kd.C k43 _ A0 l0.length l0 := HR0.out
       have q012 : (0 : Int) ≤ ((ji6) : Int) := of_decide_eq_true zO0_1
       have hcut12 := cut_from (P := Try.prog) 26 43 .i64 Try.underlying26 hi012 3 hsz12 A0 l0.length c0 (ji6) q012 q12
       have hr12 := Kd.C_drop (m := ((ji6) : Int).toNat) (c := c0) hC12 (by omega) hroom12
       obtain ⟨A12, hA12⟩ : ∃ A1, A1 = (if c0 = ((ji6) : Int).toNat then A0 else (A0 : Option Addr).map (·.add (((ji6) : Int).toNat * 3))) := ⟨_, rfl⟩
       obtain ⟨c12, hc12⟩ : ∃ c1, c1 = c0 - ((ji6) : Int).toNat := ⟨_, rfl⟩
       have hy12 : y146.length = l0.length - ((ji6) : Int).toNat := (by rw [Ny146.out, List.length_drop] <;> omega)
       rw [show (l0).drop ((ji6) : Int).toNat = y146 from Ny146.out.symm] at hr12
       replace hr12 : Kd.C k43 _ A12 y146.length y146 := (by rw [hA12]; exact hr12)
       rw [← hy12, ← hA12, ← hc12] at hcut12
       have HR149 := Aside0.mk hr12
       have HC149 := Aside0.mk (show y146.length ≤ c12 from by rw [hy12, hc12]; exact Nat.sub_le_sub_right hroom12 _)
       clear hr12 hC12 hroom12 hi012 hsz12 hc12; have KY12 := Aside0.mk hy12; have KA12 := Aside0.mk hA12; clear hy12 hA12; replace q12 := eq_true q12
       refine start_ (n := 11) (S := fun w' => True) (ds := []) #[false, false, false, false, false, false, false, false, false, false, false] (by kernel_rfl) rfl rfl trivial (fun hHeld => ?_); refine with_tabW spec_pzWithout.tab1 spec_pzWithout.bits1 (fun HT_ HW_ => ?_)
       generalize w.drew = w10 at HB HR142 HR149 hHeld ⊢
       refine zA 1 6 HT_ ?_
       refine zA 2 7 HT_ ?_
       refine zA 3 8 HT_ ?_
       refine zA 5 10 HT_ ?_
       refine zA 6 11 HT_ ?_
       refine zA 7 12 HT_ ?_
       refine zA 8 13 HT_ ?_
       refine zO 0 (some 5) HT_ (fun K hK => ?_)
       refine Kd.R_lit_step k43 _ 43 ?hg (N := 5) ?hd (xs := ([] : List (S43))) (inner := []) (ok := fun _ => True) (okp := fun _ => True) ?hr ?hp (fun _ hk => hk) trivial (Below.refl _ _) (Nat.le_refl _) zO0_3 ?_; (case hd => rfl); (case hg => rfl); (case hr => first | (go_simp; done) | (go_simp; rfl)); (case hp => exact (Reps.none _ _))
       intro v137 w13 ho14 hb hg_ hnew_
       clear hg_ hnew_
       (first | rw [← Ny136.out] at ho14 | (simp only [Int.reduceToNat] at ho14; rw [← Ny136.out] at ho14))
       have HO138 := Aside0.mk (Kd.R_lower ho14 (below_size (zy HB)))
       replace HB := zh HB hb; clear hb ho14
       refine hK.out _ _ trivial (fun hHeld => ?_)
       clear hK K
       refine zN 5 ?_
       refine zO 4 (some 9) HT_ (fun K hK => ?_)
       refine Kd.R_append_rows_step k43 (w0 := w) w.heap.size (by rfl) (.tmp 5) (.tmp 8) 26 43 (.agg #[(.int .i64 0), (.int .i64 0), (.int .i64 0)]) 24 rfl Try.underlying26 info43 rfl (by decide) (by omega) v137 y136 y139 _ _ _ (fun _ => True) (fun _ => False) rfl rfl ?aO ?aR (fun _ _ h => h) (fun _ h => h.elim) ?aF ?aB ?aS ?aL ?_
       (case aR => repeat (first | exact (Kd.C_below HR142.out HB.out) | (with_reducible refine Kd.C_alloc ?_ _) | (with_reducible refine Kd.C_drewN ?_ _) | (with_reducible refine Kd.C_drew ?_)))
       (case aB => exact (zy HB))
       (case aF => exact (fun _ _ => trivial))
       (case aO => exact (zs HO138))
       (case aS => exact (below_size (zy HB)))
       (case aL => have := LMc5.out; omega)
       intro v144 w15 ho hb hg hat
       rw [← Ny143.out] at ho
       have HO145 := Aside0.mk (ho)
       replace HB := Aside0.mk hb
       clear HO138; clear ho hb hg hat
       refine hK.out _ _ trivial (fun hHeld => ?_)
       clear hK K
       refine zN 9 ?_
       refine zO 9 (some 14) HT_ (fun K hK => ?_)
       refine Kd.R_append_rows_step k43 (w0 := w) w.heap.size (by rfl) (.tmp 9) (.tmp 13) 26 43 (.agg #[(.int .i64 0), (.int .i64 0), (.int .i64 0)]) 24 rfl Try.underlying26 info43 rfl (by decide) (by omega) v144 y143 y146 _ _ _ (fun _ => True) (fun _ => False) rfl rfl ?aO ?aR (fun _ _ h => h) (fun _ h => h.elim) ?aF ?aB ?aS ?aL ?_
       (case aR => repeat (first | exact (Kd.C_below HR149.out HB.out) | (with_reducible refine Kd.C_alloc ?_ _) | (with_reducible refine Kd.C_drewN ?_ _) | (with_reducible refine Kd.C_drew ?_)))
       (case aB => exact (zy HB))
       (case aF => exact (fun _ _ => trivial))
       (case aO => exact (zs HO145))
       (case aS => exact (below_size (zy HB)))
       (case aL => have := LMc9.out; omega)
       intro v151 w16 ho hb hg hat
       rw [← Ny150.out] at ho
       have HO152 := Aside0.mk (ho)
       replace HB := Aside0.mk hb
       clear HO145; clear ho hb hg hat
       refine hK.out _ _ trivial (fun hHeld => ?_)
       clear hK K
       refine zN 14 ?_
       refine zA 10 4 HT_ ?_
       refine done_ (done_of HT_.out (by kernel_rfl)) ?_
       try go_wp2
       go_ret
       exact ⟨_, by first | rfl | (simp [errW_none, errW_some] <;> rfl) | (simp only [← hji6]; first | rfl | (simp [errW_none, errW_some] <;> rfl)) | (simp [*, errW_none, errW_some] <;> rfl), by (with_reducible repeat (first | apply Kd.R_alloc | apply Kd.R_drewN | apply Kd.R_drew)); exact HO152.out, zy HB⟩
      ·rw [if_neg c9] at H
       exact absurd H zO0_3
     ·rw [if_neg c8] at H
      exact absurd H zO0_3
    ·rw [if_neg c7] at H
     exact absurd H zO0_3
   ·rw [if_neg c5] at H
    exact absurd H zO0_3
  ·rw [if_neg c4] at H
   exact absurd H zO0_3
 ·rw [if_neg c3] at H
  exact absurd H zO0_3


/-! ### spec_HarderPuzzle: function 8 -/
mutual
def spec_HarderPuzzle.j0 : Nat → Bool → Int → List (S43) → Option (Int × (List (S43)) × Bool)
 | 0, _, _, _ => none
 | k + 1, x17, x154000, x154001 => if x17 = true then (some (0, ([] : List (S43)), false)) else ((some (([] : List (S43)) : List (S43))).bind fun y157 => (if y157.length + x154001.length < 5864062014805 then (spec_HarderPuzzle.l0 k (y157 ++ x154001) 0 x154000 x154001) else (none)))
def spec_HarderPuzzle.l0 : Nat → List (S43) → Int → Int → List (S43) → Option (Int × (List (S43)) × Bool)
 | 0, _, _, _, _ => none
 | k + 1, x4, x5, x154000, x154001 => if x5 < (x4.length : Int) then ((spec_pzWithout.f x4 x5).bind fun t163 => ((spec_pzSolved.f k x154000 t163).bind fun t166 => (if t166 = true then (spec_HarderPuzzle.l0 k t163 x5 x154000 x154001) else (spec_HarderPuzzle.l0 k x4 (wrap64 (x5 + 1)) x154000 x154001)))) else (some (x154000, x4, true))
end
def spec_HarderPuzzle.f (k : Nat) (a0_0 : Int) (l0_1 : List (S43)) : Option (Int × (List (S43)) × Bool) := (spec_pzGood.f k a0_0 l0_1).bind fun t155 => (if t155 = true then ((spec_pzSolved.f k a0_0 l0_1).bind fun t156 => (spec_HarderPuzzle.j0 k (!t156) a0_0 l0_1)) else (spec_HarderPuzzle.j0 k true a0_0 l0_1))
set_option maxHeartbeats 8000000 in
set_option maxRecDepth 100000 in
theorem spec_HarderPuzzle.calls (k : Nat) (a0_0 : Int) (A0_1 : Option Addr) (c0_1 : Nat) (l0_1 : List (S43)) (r1 : Int) (r2 : List (S43)) (r3 : Bool) (w : World) (hr0_1 : Kd.C k43 w A0_1 l0_1.length l0_1) (hc0_1 : l0_1.length ≤ c0_1) (h : spec_HarderPuzzle.f k a0_0 l0_1 = some (r1, r2, r3)) :
  Calls Try.prog 8 #[.agg #[.int .i64 a0_0, .slice A0_1 l0_1.length c0_1]] w fun e w' => ∃ v1_ : Value, e = .returned (.tuple #[.agg #[.int .i64 r1, v1_], .bool r3]) ∧ Kd.R k43 43 w' w.heap.size (fun _ => True) v1_ r2 ∧ Below w.heap.size w w' := by
 have hu28 := Try.underlying28; have HR0_1 := Aside0.mk hr0_1; have HC0_1 := Aside0.mk hc0_1; clear hr0_1 hc0_1
 have HB := Aside0.mk (Below.refl w.heap.size w)
 have H : ((spec_pzGood.f k a0_0 l0_1).bind fun t155 => (if t155 = true then ((spec_pzSolved.f k a0_0 l0_1).bind fun t156 => (spec_HarderPuzzle.j0 k (!t156) a0_0 l0_1)) else (spec_HarderPuzzle.j0 k true a0_0 l0_1))) = some (r1, r2, r3) := h
 clear h; have HC2 := Aside0.mk H; clear H
 go_enter Try.func8, Try.ntmps8
 go_upto_region 1 with (first | ((with_reducible refine gate_dst (N := 1) rfl ?_); refine zE 1 #[.int .i64 a0_0, .slice A0_1 l0_1.length c0_1] 28 ?_; intro gb153 hg w3 hbox hb; have BK153 := Aside0.mk (hbox); have GW153 := zg HB hg; have GE153 := GW153; replace HB := zh HB hb; clear hb hbox hg) | ((with_reducible refine gate_dst (N := 2) rfl ?_); refine zE 2 #[.int .i64 0, .slice none 0 0] 28 ?_; intro gb154 hg w4 hbox hb; have BK154 := Aside0.mk (hbox); have GW154 := zg HB hg; have GE154 := GW154; have NB153_154 := zl BK153 hg; have NB154_153 := zr BK153 hg; replace BK153 := zb BK153 hb; replace HB := zh HB hb; clear hb hbox hg))
 (try simp only [Act.put, List.setIfInBounds_toArray, List.set_cons_zero, List.set_cons_succ])
 go_cut [17] (fun v17 wc => ∃ (kq : Nat) (x17_1 : Bool), v17 = .bool x17_1 ∧ Aside0 (spec_HarderPuzzle.j0 kq x17_1 a0_0 l0_1 = some (r1, r2, r3)) ∧ Aside0 (kq ≤ k) ∧ Aside0 (wc.heap[gb153]? = some (.cells #[.int .i64 a0_0, (.slice A0_1 l0_1.length c0_1)] 28 (0, 0))) ∧ Aside0 (wc.heap[gb154]? = some (.cells #[.int .i64 0, (.slice none 0 0)] 28 (0, 0))) ∧ Aside0 (Below w.heap.size w wc))
 case first =>
  have H := HC2.out; clear HC2; replace H := Option.bind_eq_some_iff.mp H; obtain ⟨t155, A50, H⟩ := H; (try dsimp only at H); have A5 := Aside0.mk A50; clear A50
  by_cases c6 : t155 = true
  ·subst c6
   rw [if_pos rfl] at H; replace H := Option.bind_eq_some_iff.mp H; obtain ⟨t156, A70, H⟩ := H
   replace H : (spec_HarderPuzzle.j0 k (!t156) a0_0 l0_1) = some (r1, r2, r3) := H
   have A7 := Aside0.mk A70; clear A70; have H' := Aside0.mk H; clear H; have hnb8 := NB153_154.out; have hnc8 := NB154_153.out
   obtain ⟨_, _, _, _⟩ := zc2 BK153
   go_wp2_with (first | ((with_reducible refine gate_callee (f := 45) rfl ?_); refine zG (some 8) Try.func45 #[.agg #[.int .i64 a0_0, .slice A0_1 l0_1.length c0_1]] ?_; (with_reducible refine (spec_pzGood.calls k a0_0 _ _ l0_1 true _ ?side1 ?side2 A5.out).mono ?_); (case side1 => repeat (first | exact (Kd.C_below HR0_1.out HB.out) | (with_reducible refine Kd.C_alloc ?_ _) | (with_reducible refine Kd.C_drewN ?_ _) | (with_reducible refine Kd.C_drew ?_))); (case side2 => exact HC0_1.out); rintro e w10 ⟨rfl, hb⟩; refine ⟨_, rfl, ?_⟩; replace BK153 := zb BK153 hb; replace BK154 := zb BK154 hb; replace HB := zh HB hb; clear hb; obtain ⟨_, _, _, _⟩ := zc2 BK153) | (go_at_call 46; (with_reducible refine (spec_pzSolved.calls k a0_0 _ _ l0_1 t156 _ ?side1 ?side2 A7.out).mono ?_); (case side1 => repeat (first | exact (Kd.C_below HR0_1.out HB.out) | (with_reducible refine Kd.C_alloc ?_ _) | (with_reducible refine Kd.C_drewN ?_ _) | (with_reducible refine Kd.C_drew ?_))); (case side2 => exact HC0_1.out); rintro e w12 ⟨rfl, hb⟩; replace BK153 := zb BK153 hb; replace BK154 := zb BK154 hb; replace HB := zh HB hb; clear hb))
   go_meet
   case rel => exact ⟨_, (!t156), zu, H', ⟨by first | omega | exact Nat.le_refl _⟩, zk BK153, zk BK154, ⟨zy HB⟩⟩
  ·replace c6 := Bool.eq_false_iff.mpr c6
   subst c6; rw [if_neg (show ¬ (false = true) by decide)] at H; have H' := Aside0.mk H; clear H; have hnb13 := NB153_154.out; have hnc13 := NB154_153.out
   obtain ⟨_, _, _, _⟩ := zc2 BK153
   go_wp2_with (first | ((with_reducible refine gate_callee (f := 45) rfl ?_); refine zG (some 8) Try.func45 #[.agg #[.int .i64 a0_0, .slice A0_1 l0_1.length c0_1]] ?_; (with_reducible refine (spec_pzGood.calls k a0_0 _ _ l0_1 false _ ?side1 ?side2 A5.out).mono ?_); (case side1 => repeat (first | exact (Kd.C_below HR0_1.out HB.out) | (with_reducible refine Kd.C_alloc ?_ _) | (with_reducible refine Kd.C_drewN ?_ _) | (with_reducible refine Kd.C_drew ?_))); (case side2 => exact HC0_1.out); rintro e w15 ⟨rfl, hb⟩; refine ⟨_, rfl, ?_⟩; replace BK153 := zb BK153 hb; replace BK154 := zb BK154 hb; replace HB := zh HB hb; clear hb))
   go_meet
   case rel => exact ⟨_, (true), zu, H', ⟨by first | omega | exact Nat.le_refl _⟩, zk BK153, zk BK154, ⟨zy HB⟩⟩
 case rest =>
  clear HC2
  obtain ⟨kq, x17_1, rfl, HA, HJ1, BK153, BK154, HB⟩ := hcut
  cases kq with
  | zero => exact absurd HA.out (by simp [spec_HarderPuzzle.j0])
  | succ kj1 =>
   have H := HA.out; clear HA; simp only [spec_HarderPuzzle.j0] at H
   by_cases c16 : x17_1 = true
   ·subst c16
    rw [if_pos rfl] at H; simp only [Option.some.injEq, Prod.mk.injEq] at H; obtain ⟨rfl, rfl, rfl⟩ := H; have hnb17 := NB154_153.out; have hnc17 := NB153_154.out
    obtain ⟨_, _, _, _⟩ := zc2 BK154
    go_wp2
    refine bodyPost_ret (results_ct rfl _ _ gb154 28 #[.int .i64 0, .slice none 0 0] (0, 0) _ rfl (zw BK154) Try.underlying28 rfl (by kernel_rfl)) rfl ?_
    exact ⟨_, zt, by first | exact Kd.R_nil _ _ _ _ _ | exact Kd.N_nil _ _ _ _ _ | exact Kd.V_nil _ _ _ _ _ | exact Kd.Q_nil _ _ _ _ _ | exact Kd.S_nil _ _ _ _ _, zy HB⟩
   ·replace c16 := Bool.eq_false_iff.mpr c16
    subst c16; rw [if_neg (show ¬ (false = true) by decide)] at H
    obtain ⟨y157, hy157⟩ : ∃ y_ : List (S43), y_ = (([] : List (S43))) := ⟨_, rfl⟩
    replace H : (if y157.length + l0_1.length < 5864062014805 then (spec_HarderPuzzle.l0 kj1 (y157 ++ l0_1) 0 a0_0 l0_1) else (none)) = some (r1, r2, r3) := by first | (rw [hy157]; with_reducible exact H) | (have H2_ := (Option.bind_some _ _).symm.trans H; rw [hy157]; with_reducible exact H2_) | (have H2_ := (Option.bind_some _ _).symm.trans H; with_reducible exact H2_) | with_reducible exact H | (rw [hy157]; exact H) | exact H
    have Ny157 := Aside0.mk hy157; clear hy157
    by_cases c19 : y157.length + l0_1.length < 5864062014805
    ·rw [if_pos c19] at H
     have LMc19 := Aside0.mk c19; clear c19
     obtain ⟨y160, hy160⟩ : ∃ y_ : List (S43), y_ = (y157 ++ l0_1) := ⟨_, rfl⟩
     replace H : (spec_HarderPuzzle.l0 kj1 y160 0 a0_0 l0_1) = some (r1, r2, r3) := by first | (rw [hy160]; with_reducible exact H) | (have H2_ := (Option.bind_some _ _).symm.trans H; rw [hy160]; with_reducible exact H2_) | (have H2_ := (Option.bind_some _ _).symm.trans H; with_reducible exact H2_) | with_reducible exact H | (rw [hy160]; exact H) | exact H
     have Ny160 := Aside0.mk hy160; clear hy160; have H' := Aside0.mk H; clear H
     go_wp2_with (first | ((with_reducible refine gate_dst (N := 19) rfl ?_); refine Kd.R_lit k43 _ 43 ?hg (N := 19) ?hd (xs := ([] : List (S43))) (inner := []) (ok := fun _ => True) (okp := fun _ => True) ?hr ?hp (fun _ hk => hk) trivial (Below.refl _ _) (Nat.le_refl _) zO0_3 ?_; (case hd => rfl); (case hg => rfl); (case hr => first | (go_simp; done) | (go_simp; rfl)); (case hp => exact (Reps.none _ _)); intro v158 w20 ho21 hb hg_ hnew_; clear hg_ hnew_; (first | rw [← Ny157.out] at ho21 | (simp only [Int.reduceToNat] at ho21; rw [← Ny157.out] at ho21)); have HO159 := Aside0.mk (Kd.R_lower ho21 (below_size (zy HB))); replace BK153 := zb BK153 hb; replace BK154 := zb BK154 hb; replace HB := zh HB hb; clear hb ho21; have hnb22 := NB153_154.out; have hnc22 := NB154_153.out; obtain ⟨_, _, _, _⟩ := zc2 BK153) | ((with_reducible refine gate_builtin (b := .append) (xs := #[.tmp 19, .tmp 21]) rfl ?_); at_builtin; refine Kd.R_append_rows k43 (w0 := w) w.heap.size rfl (.tmp 19) (.tmp 21) 26 43 (.agg #[(.int .i64 0), (.int .i64 0), (.int .i64 0)]) 24 rfl Try.underlying26 info43 rfl (by decide) (by omega) v158 y157 l0_1 _ _ _ (fun _ => True) (fun _ => False) rfl rfl ?aO ?aR (fun _ _ h => h) (fun _ h => h.elim) ?aF ?aB ?aS ?aL ?_; (case aR => repeat (first | exact (Kd.C_below HR0_1.out HB.out) | (with_reducible refine Kd.C_alloc ?_ _) | (with_reducible refine Kd.C_drewN ?_ _) | (with_reducible refine Kd.C_drew ?_))); (case aB => exact (zy HB)); (case aF => exact (fun _ _ => trivial)); (case aO => exact (zs HO159)); (case aS => exact (below_size (zy HB))); (case aL => have := LMc19.out; omega); intro v161 w24 ho hb hg hat; rw [← Ny160.out] at ho; have n0_ := Aside0.mk (blk_grown (zq BK153) hg (Kd.R_ne HO159.out BK153.out (by decide))); have n1_ := Aside0.mk (blk_grown (zq BK154) hg (Kd.R_ne HO159.out BK154.out (by decide))); have HO162 := Aside0.mk (ho); replace HB := Aside0.mk hb; clear HO159; clear BK153; have BK153 := n0_; clear n0_; clear BK154; have BK154 := n1_; clear n1_; clear ho hb hg hat))
     go_loopg [4, 5] kj1 (fun kq v4 v5 w' => ∃ (x4_2 : List (S43)) (x5_2 : Int), v5 = .int .i64 x5_2 ∧ Aside0 (spec_HarderPuzzle.l0 kq x4_2 x5_2 a0_0 l0_1 = some (r1, r2, r3)) ∧ Aside0 (kq ≤ kj1) ∧ Aside0 (Kd.R k43 43 w' w.heap.size (fun _ => True) v4 x4_2) ∧ Aside0 (w'.heap[gb153]? = some (.cells #[.int .i64 a0_0, (.slice A0_1 l0_1.length c0_1)] 28 (0, 0))) ∧ Aside0 (w'.heap[gb154]? = some (.cells #[.int .i64 0, (.slice none 0 0)] 28 (0, 0))) ∧ Aside0 (Below w.heap.size w w'))
     case atStart => exact ⟨(y160), (0), zu, H', ⟨Nat.le_refl _⟩, zp HO162, zk BK153, zk BK154, ⟨zy HB⟩⟩
     case round =>
      clear H'
      obtain ⟨x4_2, x5_2, rfl, HA, HK2, HO_4, BK153, BK154, HB⟩ := hrel
      cases gk with
      | zero => exact absurd HA.out (by simp [spec_HarderPuzzle.l0])
      | succ k2 =>
       have H := HA.out; clear HA; simp only [spec_HarderPuzzle.l0] at H
       by_cases c25 : x5_2 < (x4_2.length : Int)
       ·rw [if_pos c25] at H
        have c25b0 : decide (x5_2 < (x4_2.length : Int)) = true := decide_eq_true c25; clear c25; replace H := Option.bind_eq_some_iff.mp H; obtain ⟨t163, A260, H⟩ := H; (try dsimp only at H); have A26 := Aside0.mk A260; clear A260; replace H := Option.bind_eq_some_iff.mp H; obtain ⟨t166, A270, H⟩ := H
        replace H : (if t166 = true then (spec_HarderPuzzle.l0 k2 t163 x5_2 a0_0 l0_1) else (spec_HarderPuzzle.l0 k2 x4_2 (wrap64 (x5_2 + 1)) a0_0 l0_1)) = some (r1, r2, r3) := H
        have A27 := Aside0.mk A270; clear A270
        by_cases c28 : t166 = true
        ·subst c28
         rw [if_pos rfl] at H; have H' := Aside0.mk H; clear H
         obtain ⟨Ao29, co29, eo29⟩ := Kd.R_slice HO_4.out
         subst eo29
         go_wp2_with (first | ((with_reducible refine gate_callee (f := 47) rfl ?_); refine zG (some 29) Try.func47 #[.slice Ao29 x4_2.length co29, .int .i64 x5_2] ?_; (with_reducible refine (spec_pzWithout.calls _ _ x4_2 x5_2 t163 _ ?side1 ?side2 A26.out).mono ?_); (case side1 => repeat (first | exact (Kd.R_reads' HO_4.out).2.2 | (with_reducible refine Kd.C_alloc ?_ _) | (with_reducible refine Kd.C_drewN ?_ _) | (with_reducible refine Kd.C_drew ?_))); (case side2 => exact (Kd.R_reads' HO_4.out).2.1); rintro e w30 ⟨v164, rfl, ho0, hb⟩; refine ⟨_, rfl, ?_⟩; have n0_ := Aside0.mk (Kd.R_elder' (zs HO_4) (Kd.R_base ho0) hb); have HO165 := Aside0.mk (Kd.R_lower (Kd.R_new' ho0 (Kd.R_lt (zs HO_4))) (below_size (zy HB))); replace BK153 := zb BK153 hb; replace BK154 := zb BK154 hb; replace HB := zh HB hb; clear HO_4; have HO_4 := n0_; clear n0_; clear hb ho0; have hnb31 := NB153_154.out; have hnc31 := NB154_153.out; obtain ⟨_, _, _, _⟩ := zc2 BK153; obtain ⟨Ao33, co33, eo33⟩ := Kd.R_slice HO165.out; subst eo33) | ((with_reducible refine gate_callee (f := 46) rfl ?_); refine zG (some 33) Try.func46 #[.int .i64 a0_0, .slice Ao33 t163.length co33] ?_; (with_reducible refine (spec_pzSolved.calls k2 a0_0 _ _ t163 true _ ?side1 ?side2 A27.out).mono ?_); (case side1 => repeat (first | exact (Kd.R_reads' HO165.out).2.2 | (with_reducible refine Kd.C_alloc ?_ _) | (with_reducible refine Kd.C_drewN ?_ _) | (with_reducible refine Kd.C_drew ?_))); (case side2 => exact (Kd.R_reads' HO165.out).2.1); rintro e w34 ⟨rfl, hb⟩; refine ⟨_, rfl, ?_⟩; replace HO_4 := zo HO_4 hb; replace HO165 := zo HO165 hb; replace BK153 := zb BK153 hb; replace BK154 := zb BK154 hb; replace HB := zh HB hb; clear hb))
         go_roundg k2
         case measure => have := HJ1.out; have := HK2.out; omega
         case rel => exact ⟨(t163), (x5_2), zu, H', ⟨by have := HJ1.out; have := HK2.out; omega⟩, ⟨by (with_reducible repeat (first | apply Kd.R_alloc | apply Kd.R_drewN | apply Kd.R_drew)); exact Kd.R_mono HO165.out (fun _ hk => trivial)⟩, zk BK153, zk BK154, ⟨zy HB⟩⟩
        ·replace c28 := Bool.eq_false_iff.mpr c28
         subst c28; rw [if_neg (show ¬ (false = true) by decide)] at H; have H' := Aside0.mk H; clear H
         obtain ⟨Ao35, co35, eo35⟩ := Kd.R_slice HO_4.out
         subst eo35
         go_wp2_with (first | ((with_reducible refine gate_callee (f := 47) rfl ?_); refine zG (some 29) Try.func47 #[.slice Ao35 x4_2.length co35, .int .i64 x5_2] ?_; (with_reducible refine (spec_pzWithout.calls _ _ x4_2 x5_2 t163 _ ?side1 ?side2 A26.out).mono ?_); (case side1 => repeat (first | exact (Kd.R_reads' HO_4.out).2.2 | (with_reducible refine Kd.C_alloc ?_ _) | (with_reducible refine Kd.C_drewN ?_ _) | (with_reducible refine Kd.C_drew ?_))); (case side2 => exact (Kd.R_reads' HO_4.out).2.1); rintro e w36 ⟨v164, rfl, ho0, hb⟩; refine ⟨_, rfl, ?_⟩; have n0_ := Aside0.mk (Kd.R_elder' (zs HO_4) (Kd.R_base ho0) hb); have HO165 := Aside0.mk (Kd.R_lower (Kd.R_new' ho0 (Kd.R_lt (zs HO_4))) (below_size (zy HB))); replace BK153 := zb BK153 hb; replace BK154 := zb BK154 hb; replace HB := zh HB hb; clear HO_4; have HO_4 := n0_; clear n0_; clear hb ho0; have hnb37 := NB153_154.out; have hnc37 := NB154_153.out; obtain ⟨_, _, _, _⟩ := zc2 BK153; obtain ⟨Ao39, co39, eo39⟩ := Kd.R_slice HO165.out; subst eo39) | ((with_reducible refine gate_callee (f := 46) rfl ?_); refine zG (some 33) Try.func46 #[.int .i64 a0_0, .slice Ao39 t163.length co39] ?_; (with_reducible refine (spec_pzSolved.calls k2 a0_0 _ _ t163 false _ ?side1 ?side2 A27.out).mono ?_); (case side1 => repeat (first | exact (Kd.R_reads' HO165.out).2.2 | (with_reducible refine Kd.C_alloc ?_ _) | (with_reducible refine Kd.C_drewN ?_ _) | (with_reducible refine Kd.C_drew ?_))); (case side2 => exact (Kd.R_reads' HO165.out).2.1); rintro e w40 ⟨rfl, hb⟩; refine ⟨_, rfl, ?_⟩; replace HO_4 := zo HO_4 hb; replace HO165 := zo HO165 hb; replace BK153 := zb BK153 hb; replace BK154 := zb BK154 hb; replace HB := zh HB hb; clear hb))
         go_roundg k2
         case measure => have := HJ1.out; have := HK2.out; omega
         case rel => exact ⟨(x4_2), (wrap64 (x5_2 + 1)), zu, H', ⟨by have := HJ1.out; have := HK2.out; omega⟩, ⟨by (with_reducible repeat (first | apply Kd.R_alloc | apply Kd.R_drewN | apply Kd.R_drew)); exact Kd.R_mono HO_4.out (fun _ hk => trivial)⟩, zk BK153, zk BK154, ⟨zy HB⟩⟩
       ·rw [if_neg c25] at H
        have c25b0 : decide (x5_2 < (x4_2.length : Int)) = false := decide_eq_false c25; clear c25; simp only [Option.some.injEq, Prod.mk.injEq] at H; obtain ⟨rfl, rfl, rfl⟩ := H
        obtain ⟨Ao41, co41, eo41⟩ := Kd.R_slice HO_4.out
        subst eo41; have hnb42 := NB153_154.out; have hnc42 := NB154_153.out
        obtain ⟨_, _, _, _⟩ := zc2 BK153
        obtain ⟨_, _, _, _⟩ := zc2 BK154
        go_wp2
        refine bodyPost_ret (results_ct rfl _ _ gb154 28 #[.int .i64 a0_0, .slice Ao41 x4_2.length co41] (0, 0) _ rfl (zw BK154) Try.underlying28 rfl (by kernel_rfl)) rfl ?_
        exact ⟨_, zt, by (with_reducible repeat (first | apply Kd.R_alloc | apply Kd.R_drewN | apply Kd.R_drew)); exact Kd.R_mono (Kd.R_far (p := ⟨gb154, 1, none⟩) (Kd.R_far (p := ⟨gb154, 0, none⟩) (Kd.R_types HO_4.out BK154.out (by decide)) (fun _ hk => hk.2) (.int .i64 a0_0)) (fun _ hk => hk.2) (.slice Ao41 x4_2.length co41)) (fun _ hk => trivial), zy HB⟩
    ·rw [if_neg c19] at H
     exact absurd H zO0_3


/-! ### impl_within: function 59 -/
def impl_within.f (a0 : Int) (a1 : Int) (a2 : Int) : Option (Bool) := if a0 ≥ a1 then (some (decide (a0 ≤ a2))) else (some false)
set_option maxHeartbeats 8000000 in
set_option maxRecDepth 100000 in
theorem impl_within.calls (a0 : Int) (a1 : Int) (a2 : Int) (r : Bool) (w : World) (h : impl_within.f a0 a1 a2 = some r) :
  Calls Try.prog 59 #[.int .i64 a0, .int .i64 a1, .int .i64 a2] w fun e w' => e = .returned (.bool r) ∧ Drawn0 w w' := by
 have H : (if a0 ≥ a1 then (some (decide (a0 ≤ a2))) else (some false)) = some r := h
 clear h
 by_cases c4 : a0 ≥ a1
 ·rw [if_pos c4] at H
  have c4b0 : decide (a1 ≤ a0) = true := decide_eq_true c4; clear c4
  obtain rfl := Option.some.inj H
  go_enter Try.func59, Try.ntmps59
  go_wp2
  go_ret
  exact ⟨by first | rfl | (simp; done) | (simp [*]; done), by repeat (first | exact Drawn0.refl _ | apply Drawn0.step)⟩
 ·rw [if_neg c4] at H
  have c4b0 : decide (a1 ≤ a0) = false := decide_eq_false c4; clear c4
  obtain rfl := Option.some.inj H
  go_enter Try.func59, Try.ntmps59
  go_wp2
  go_ret
  exact ⟨by first | rfl | (simp; done) | (simp [*]; done), by repeat (first | exact Drawn0.refl _ | apply Drawn0.step)⟩


/-! ### impl_isSmall: function 72 -/
def impl_isSmall.f (a0 : Int) : Option (Bool) := (impl_within.f a0 1 12).bind fun t184 => (some t184)
set_option maxHeartbeats 8000000 in
set_option maxRecDepth 100000 in
theorem impl_isSmall.calls (a0 : Int) (r : Bool) (w : World) (h : impl_isSmall.f a0 = some r) :
  Calls Try.prog 72 #[.int .i64 a0] w fun e w' => e = .returned (.bool r) ∧ Drawn0 w w' := by
 have H : ((impl_within.f a0 1 12).bind fun t184 => (some t184)) = some r := h
 clear h; replace H := Option.bind_eq_some_iff.mp H; obtain ⟨t184, A20, H⟩ := H
 replace H : (some t184) = some r := H
 have A2 := Aside0.mk A20; clear A20
 obtain rfl := Option.some.inj H
 go_enter Try.func72, Try.ntmps72
 go_wp2_with (first | ((with_reducible refine gate_callee (f := 59) rfl ?_); refine zG (some 4) Try.func59 #[.int .i64 a0, .int .i64 1, .int .i64 12] ?_; (with_reducible refine (impl_within.calls a0 1 12 t184 _ A2.out).mono ?_); rintro e w' ⟨rfl, ⟨nd, rfl⟩⟩; refine ⟨_, rfl, ?_⟩))
 go_ret
 exact ⟨by first | rfl | (simp; done) | (simp [*]; done), by repeat (first | exact Drawn0.refl _ | apply Drawn0.step)⟩


/-! ### impl_Clue_94: function 94 -/
def cIdx (p : S43 → Option Bool) : List S43 → Nat → Option Int
 | [], _ => some (-1)
 | x :: l, i => (p x).bind fun b => if b = true then some (i : Int) else cIdx p l (i + 1)
def cAny (p : S43 → Option Bool) : List S43 → Option Bool
 | [] => some false
 | x :: l => (p x).bind fun b => if b = true then some true else cAny p l
theorem cAny_idx (p : S43 → Option Bool) : ∀ (l : List S43) (i : Nat) (r : Bool), cAny p l = some r → ∃ z, cIdx p l i = some z ∧ decide (z ≥ 0) = r
 | [], i, r, h => ⟨-1, rfl, by simp only [cAny] at h; rw [← Option.some.inj h]; rfl⟩
 | x :: l, i, r, h => by
  simp only [cAny] at h
  obtain ⟨b, hb, h⟩ := Option.bind_eq_some_iff.1 h
  cases b with
  | true => exact ⟨(i : Int), by simp [cIdx, hb], by rw [if_pos rfl] at h; rw [← Option.some.inj h]; exact decide_eq_true (by omega)⟩
  | false =>
   rw [if_neg zO0_3] at h
   obtain ⟨z, h1, h2⟩ := cAny_idx p l (i + 1) r h
   exact ⟨z, by simp [cIdx, hb, h1], h2⟩
theorem cAny_mono {p q : S43 → Option Bool} (h : ∀ x, LeO (p x) (q x)) : ∀ l, LeO (cAny p l) (cAny q l)
 | [] => LeO.refl _
 | x :: l => LeO.bind (h x) (fun b => LeO.ite (LeO.refl _) (cAny_mono h l))
theorem cIdx_drop (p : S43 → Option Bool) (l : List S43) (i : Nat) (h : i < l.length) : cIdx p (l.drop i) i = (p (rd_T43 l i)).bind fun b => if b = true then some (i : Int) else cIdx p (l.drop (i + 1)) (i + 1) := by
 rw [List.drop_eq_getElem_cons h]
 simp [cIdx, rd_T43, List.getD_eq_getElem?_getD, List.getElem?_eq_getElem h]
/-- The function value (function g, what it captured) answers as p does, in every later world, and changes nothing that lay. -/
def cGives (w : World) (g : Nat) (lb : Array Value) (p : S43 → Option Bool) : Prop := ∀ (x : S43) (b : Bool) (W : World), p x = some b → Below w.heap.size w W → Calls Try.prog g (#[.agg #[.int .i64 x.f0, .int .i64 x.f1, .int .i64 x.f2]] ++ lb) W fun e w' => e = .returned (.bool b) ∧ Below W.heap.size W w'

set_option maxHeartbeats 8000000 in
theorem cIndexFunc (g : Nat) (lb : Array Value) (p : S43 → Option Bool) (eg : ∀ args w, (callFunc g args).run Try.prog w = .ok (.enter g args) w) (A0 : Option Addr) (c0 : Nat) (l0 : List S43) (z : Int) (w : World) (hp : cGives w g lb p) (hr0 : Kd.C k43 w A0 l0.length l0) (hc0 : l0.length ≤ c0) (h : cIdx p l0 0 = some z) :
  Calls Try.prog 94 #[.slice A0 l0.length c0, .func (.func g) #[] lb] w fun e w' => e = .returned (.int .i64 z) ∧ Below w.heap.size w w' := by
 have hu := Try.underlying43
 have hm : l0.length ≤ 9223372036854775807 := Kd.C_max hr0
 have HR0 := Aside0.mk hr0; have HC0 := Aside0.mk hc0; have HP := Aside0.mk hp; clear hr0 hc0 hp
 have hE := Aside0.mk (show cIdx p (l0.drop 0) 0 = some z by simpa using h)
 clear h
 have HB := Aside0.mk (Below.refl w.heap.size w)
 go_enter Try.func94, Try.ntmps94
 go_wp2
 go_loopg [5, 8] l0.length (fun gk v5 v8 w' => ∃ i : Nat, v8 = .int .i64 i ∧ i ≤ l0.length ∧ l0.length - i ≤ gk ∧ Aside0 (cIdx p (l0.drop i) i = some z) ∧ Aside0 (Below w.heap.size w w'))
 case atStart => exact ⟨0, rfl, by omega, by omega, hE, ⟨by repeat (first | (with_reducible first | exact HB.out | apply below_alloc | apply pw_below_drewN | apply below_drew1) | exact HB.out)⟩⟩
 case round =>
  clear hE HB
  obtain ⟨i, rfl, hi, hgk, HE, HB⟩ := hrel
  by_cases hlt : i < l0.length
  ·have hx := HE.out
   rw [cIdx_drop p l0 i hlt] at hx
   obtain ⟨b, hb, hx⟩ := Option.bind_eq_some_iff.1 hx
   clear HE
   have p101 : 0 ≤ (i : Int) := by omega
   have q101 : (i : Int) < (l0.length : Int) := by omega
   obtain ⟨ad, e, hx0, hx1, hx2⟩ := at_T43 HR0.out i p101 q101
   cases e
   rw [Int.toNat_natCast] at hx0 hx1 hx2
   replace hx0 := (HB.out.cell (World.block_lt_of_cell? w _ hx0)).trans hx0
   replace hx1 := (HB.out.cell (World.block_lt_of_cell? w _ hx1)).trans hx1
   replace hx2 := (HB.out.cell (World.block_lt_of_cell? w _ hx2)).trans hx2
   have hcall := fun W hW => HP.out (rd_T43 l0 i) b W hb hW
   generalize hy : rd_T43 l0 i = y at hcall hx hx0 hx1 hx2
   clear hy hb
   cases b with
   | true =>
    rw [if_pos rfl] at hx
    have HX := Aside0.mk (Option.some.inj hx)
    clear hx
    go_wp2_with (go_at_fn g; refine (hcall _ zO0_0).mono ?_; rintro e w' ⟨rfl, hb'⟩; have n0_ := Aside0.mk (below_step zO0_0 hb'); clear HB hb'; have HB := n0_; clear n0_)
    go_ret
    exact ⟨by rw [← HX.out]; rfl, by repeat (first | (with_reducible first | exact HB.out | apply below_alloc | apply pw_below_drewN | apply below_drew1) | exact HB.out)⟩
   | false =>
    rw [if_neg zO0_3] at hx
    have HX := Aside0.mk hx; clear hx
    go_wp2_with (go_at_fn g; refine (hcall _ zO0_0).mono ?_; rintro e w' ⟨rfl, hb'⟩; have n0_ := Aside0.mk (below_step zO0_0 hb'); clear HB hb'; have HB := n0_; clear n0_)
    go_roundg (l0.length - (i + 1))
    case measure => omega
    case rel => exact ⟨i + 1, by go_num, by omega, by omega, HX, ⟨by repeat (first | (with_reducible first | exact HB.out | apply below_alloc | apply pw_below_drewN | apply below_drew1) | exact HB.out)⟩⟩
  ·have hltz : ¬ (i : Int) < (l0.length : Int) := by omega
   have hi' : i = l0.length := by omega
   have HX := Aside0.mk (Option.some.inj ((show cIdx p (l0.drop i) i = some (-1) by rw [hi', List.drop_length]; rfl).symm.trans HE.out))
   clear hi'
   go_wp2
   go_ret
   exact ⟨by rw [← HX.out]; rfl, by repeat (first | (with_reducible first | exact HB.out | apply below_alloc | apply pw_below_drewN | apply below_drew1) | exact HB.out)⟩



/-! ### impl_Clue_73: function 73 -/
set_option maxHeartbeats 8000000 in
theorem cContainsFunc (g : Nat) (lb : Array Value) (p : S43 → Option Bool) (eg : ∀ args w, (callFunc g args).run Try.prog w = .ok (.enter g args) w) (A0 : Option Addr) (c0 : Nat) (l0 : List S43) (r : Bool) (w : World) (hp : cGives w g lb p) (hr0 : Kd.C k43 w A0 l0.length l0) (hc0 : l0.length ≤ c0) (h : cAny p l0 = some r) :
  Calls Try.prog 73 #[.slice A0 l0.length c0, .func (.func g) #[] lb] w fun e w' => e = .returned (.bool r) ∧ Below w.heap.size w w' := by
 obtain ⟨z, hz, hr⟩ := cAny_idx p l0 0 r h
 have HR := Aside0.mk hr; clear hr
 have hq := cIndexFunc g lb p eg A0 c0 l0 z w hp hr0 hc0 hz
 go_enter Try.func73, Try.ntmps73
 go_wp2_with (go_at_call 94; refine hq.mono ?_; rintro e w' ⟨rfl, hb⟩; have HB := Aside0.mk hb; clear hb)
 go_ret
 exact ⟨by rw [← HR.out]; rfl, by repeat (first | (with_reducible first | exact HB.out | apply below_alloc | apply pw_below_drewN | apply below_drew1) | exact HB.out)⟩



/-! ### impl_isClue: function 68 -/
mutual
def impl_isClue.j0 : Nat → Bool → Int → Int → Int → Option (Bool)
 | 0, _, _, _, _ => none
 | k + 1, x12, x186000, x186001, x186002 => if x12 = true then (some false) else (if x186000 = 0 then (impl_isClue.j1 k x186000 (x186000 == 0) x186000 x186001 x186002) else (impl_isClue.j1 k x186000 (x186000 == 5) x186000 x186001 x186002))
def impl_isClue.j1 : Nat → Int → Bool → Int → Int → Int → Option (Bool)
 | 0, _, _, _, _, _ => none
 | k + 1, x14, x15, x186000, x186001, x186002 => if x15 = true then (some (x186001 == 0)) else (if x14 = 1 then (if x186001 = 0 then (some (decide (x186002 ≤ 1))) else (some false)) else (if x14 = 2 then (impl_isClue.j2 k x14 (x14 == 2) x186000 x186001 x186002) else (impl_isClue.j2 k x14 (x14 == 4) x186000 x186001 x186002)))
def impl_isClue.j2 : Nat → Int → Bool → Int → Int → Int → Option (Bool)
 | 0, _, _, _, _, _ => none
 | k + 1, x14, x31, x186000, x186001, x186002 => if x31 = true then (some (decide (x186002 ≥ 1))) else (if x14 = 3 then (if x186001 ≤ 1 then (some (decide (x186002 ≤ 1))) else (some false)) else (some false))
end
def impl_isClue.f (k : Nat) (a0_0 : Int) (a0_1 : Int) (a0_2 : Int) : Option (Bool) := (impl_within.f a0_1 0 200).bind fun t186 => (if t186 = true then ((impl_within.f a0_2 0 200).bind fun t187 => (impl_isClue.j0 k (!t187) a0_0 a0_1 a0_2)) else (impl_isClue.j0 k true a0_0 a0_1 a0_2))
set_option maxHeartbeats 8000000 in
set_option maxRecDepth 100000 in
theorem impl_isClue.calls (k : Nat) (a0_0 : Int) (a0_1 : Int) (a0_2 : Int) (r : Bool) (w : World) (h : impl_isClue.f k a0_0 a0_1 a0_2 = some r) :
  Calls Try.prog 68 #[.agg #[.int .i64 a0_0, .int .i64 a0_1, .int .i64 a0_2]] w fun e w' => e = .returned (.bool r) ∧ Below w.heap.size w w' := by
 have hu43 := Try.underlying43
 have HB := Aside0.mk (Below.refl w.heap.size w)
 have H : ((impl_within.f a0_1 0 200).bind fun t186 => (if t186 = true then ((impl_within.f a0_2 0 200).bind fun t187 => (impl_isClue.j0 k (!t187) a0_0 a0_1 a0_2)) else (impl_isClue.j0 k true a0_0 a0_1 a0_2))) = some r := h
 clear h; have HC2 := Aside0.mk H; clear H
 go_enter Try.func68, Try.ntmps68
 go_upto_region 1 with (first | ((with_reducible refine gate_dst (N := 1) rfl ?_); refine zE 1 #[.int .i64 a0_0, .int .i64 a0_1, .int .i64 a0_2] 43 ?_; intro gb185 hg w3 hbox hb; have BK185 := Aside0.mk (hbox); have GW185 := zg HB hg; have GE185 := GW185; replace HB := zh HB hb; clear hb hbox hg))
 (try simp only [Act.put, List.setIfInBounds_toArray, List.set_cons_zero, List.set_cons_succ])
 go_cut [12] (fun v12 wc => ∃ (kq : Nat) (x12_1 : Bool), v12 = .bool x12_1 ∧ Aside0 (impl_isClue.j0 kq x12_1 a0_0 a0_1 a0_2 = some r) ∧ Aside0 (kq ≤ k) ∧ Aside0 (wc.heap[gb185]? = some (.cells #[.int .i64 a0_0, .int .i64 a0_1, .int .i64 a0_2] 43 (0, 0))) ∧ Aside0 (Below w.heap.size w wc))
 case first =>
  have H := HC2.out; clear HC2; replace H := Option.bind_eq_some_iff.mp H; obtain ⟨t186, A40, H⟩ := H; (try dsimp only at H); have A4 := Aside0.mk A40; clear A40
  by_cases c5 : t186 = true
  ·subst c5
   rw [if_pos rfl] at H; replace H := Option.bind_eq_some_iff.mp H; obtain ⟨t187, A60, H⟩ := H
   replace H : (impl_isClue.j0 k (!t187) a0_0 a0_1 a0_2) = some r := H
   have A6 := Aside0.mk A60; clear A60; have H' := Aside0.mk H; clear H
   obtain ⟨_, _, _, _, _, _⟩ := zc3 BK185
   go_wp2_with (first | ((with_reducible refine gate_callee (f := 59) rfl ?_); refine zG (some 5) Try.func59 #[.int .i64 a0_1, .int .i64 0, .int .i64 200] ?_; (with_reducible refine (impl_within.calls a0_1 0 200 true _ A4.out).mono ?_); rintro e w' ⟨rfl, ⟨nd, rfl⟩⟩; refine ⟨_, rfl, ?_⟩) | (go_at_call 59; (with_reducible refine (impl_within.calls a0_2 0 200 t187 _ A6.out).mono ?_); rintro e w' ⟨rfl, ⟨nd, rfl⟩⟩))
   go_meet
   case rel => exact ⟨_, (!t187), zu, H', ⟨by first | omega | exact Nat.le_refl _⟩, zk BK185, ⟨zy HB⟩⟩
  ·replace c5 := Bool.eq_false_iff.mpr c5
   subst c5; rw [if_neg (show ¬ (false = true) by decide)] at H; have H' := Aside0.mk H; clear H
   obtain ⟨_, _, _, _, _, _⟩ := zc3 BK185
   go_wp2_with (first | ((with_reducible refine gate_callee (f := 59) rfl ?_); refine zG (some 5) Try.func59 #[.int .i64 a0_1, .int .i64 0, .int .i64 200] ?_; (with_reducible refine (impl_within.calls a0_1 0 200 false _ A4.out).mono ?_); rintro e w' ⟨rfl, ⟨nd, rfl⟩⟩; refine ⟨_, rfl, ?_⟩))
   go_meet
   case rel => exact ⟨_, (true), zu, H', ⟨by first | omega | exact Nat.le_refl _⟩, zk BK185, ⟨zy HB⟩⟩
 case rest =>
  clear HC2
  obtain ⟨kq, x12_1, rfl, HA, HJ1, BK185, HB⟩ := hcut
  cases kq with
  | zero => exact absurd HA.out (by simp [impl_isClue.j0])
  | succ kj1 =>
   have H := HA.out; clear HA; simp only [impl_isClue.j0] at H
   by_cases c9 : x12_1 = true
   ·subst c9
    rw [if_pos rfl] at H
    obtain rfl := Option.some.inj H
    go_wp2
    go_ret
    exact ⟨zt, zy HB⟩
   ·replace c9 := Bool.eq_false_iff.mpr c9
    subst c9; rw [if_neg (show ¬ (false = true) by decide)] at H; have HC10 := Aside0.mk H; clear H
    obtain ⟨_, _, _, _, _, _⟩ := zc3 BK185
    go_upto_if 15 with (fail)
    go_cut [15] (fun v15 wc => ∃ (kq : Nat) (x15_9 : Bool), v15 = .bool x15_9 ∧ Aside0 (impl_isClue.j1 kq a0_0 x15_9 a0_0 a0_1 a0_2 = some r) ∧ Aside0 (kq ≤ kj1) ∧ Aside0 (wc.heap[gb185]? = some (.cells #[.int .i64 a0_0, .int .i64 a0_1, .int .i64 a0_2] 43 (0, 0))) ∧ Aside0 (Below w.heap.size w wc))
    case first =>
     have H := HC10.out; clear HC10
     by_cases c12 : a0_0 = 0
     ·rw [if_pos c12] at H
      have c12b0 : (a0_0 == 0) = true := beq_iff_eq.mpr c12
      have c12b1 : (a0_0 != 0) = false := bne_eq_false_iff_eq.mpr c12
      clear c12
      (first | rw [c12b0] | (simp only [i64_w, i32_w]; rw [c12b0]) | skip)
      have H' := Aside0.mk H; clear H
      go_wp2
      go_meet
      case rel => exact ⟨_, ((a0_0 == 0)), zu, H', ⟨by have := HJ1.out; first | omega | exact Nat.le_refl _⟩, zk BK185, ⟨zy HB⟩⟩
     ·rw [if_neg c12] at H
      have c12b0 : (a0_0 == 0) = false := beq_eq_false_iff_ne.mpr c12
      have c12b1 : (a0_0 != 0) = true := bne_iff_ne.mpr c12
      (first | rw [c12b0] | (simp only [i64_w, i32_w]; rw [c12b0]) | skip)
      have H' := Aside0.mk H; clear H
      go_wp2
      go_meet
      case rel => exact ⟨_, ((a0_0 == 5)), zu, H', ⟨by have := HJ1.out; first | omega | exact Nat.le_refl _⟩, zk BK185, ⟨zy HB⟩⟩
    case rest =>
     clear HC10
     obtain ⟨kq, x15_9, rfl, HA, HJ9, BK185, HB⟩ := hcut
     cases kq with
     | zero => exact absurd HA.out (by simp [impl_isClue.j1])
     | succ kj9 =>
      have H := HA.out; clear HA; simp only [impl_isClue.j1] at H
      by_cases c13 : x15_9 = true
      ·subst c13
       rw [if_pos rfl] at H
       obtain rfl := Option.some.inj H
       obtain ⟨_, _, _, _, _, _⟩ := zc3 BK185
       go_wp2
       go_ret
       exact ⟨zt, zy HB⟩
      ·replace c13 := Bool.eq_false_iff.mpr c13
       subst c13; rw [if_neg (show ¬ (false = true) by decide)] at H
       by_cases c15 : a0_0 = 1
       ·rw [if_pos c15] at H
        have c15b0 : (a0_0 == 1) = true := beq_iff_eq.mpr c15
        have c15b1 : (a0_0 != 1) = false := bne_eq_false_iff_eq.mpr c15
        clear c15
        by_cases c16 : a0_1 = 0
        ·rw [if_pos c16] at H
         have c16b0 : (a0_1 == 0) = true := beq_iff_eq.mpr c16
         have c16b1 : (a0_1 != 0) = false := bne_eq_false_iff_eq.mpr c16
         clear c16
         obtain rfl := Option.some.inj H
         obtain ⟨_, _, _, _, _, _⟩ := zc3 BK185
         go_wp2
         go_ret
         exact ⟨zt, zy HB⟩
        ·rw [if_neg c16] at H
         have c16b0 : (a0_1 == 0) = false := beq_eq_false_iff_ne.mpr c16
         have c16b1 : (a0_1 != 0) = true := bne_iff_ne.mpr c16
         obtain rfl := Option.some.inj H
         obtain ⟨_, _, _, _, _, _⟩ := zc3 BK185
         go_wp2
         go_ret
         exact ⟨zt, zy HB⟩
       ·rw [if_neg c15] at H
        have c15b0 : (a0_0 == 1) = false := beq_eq_false_iff_ne.mpr c15
        have c15b1 : (a0_0 != 1) = true := bne_iff_ne.mpr c15
        have HC19 := Aside0.mk H; clear H
        go_upto_if 31 with (fail)
        go_cut [31] (fun v31 wc => ∃ (kq : Nat) (x31_18 : Bool), v31 = .bool x31_18 ∧ Aside0 (impl_isClue.j2 kq a0_0 x31_18 a0_0 a0_1 a0_2 = some r) ∧ Aside0 (kq ≤ kj9) ∧ Aside0 (wc.heap[gb185]? = some (.cells #[.int .i64 a0_0, .int .i64 a0_1, .int .i64 a0_2] 43 (0, 0))) ∧ Aside0 (Below w.heap.size w wc))
        case first =>
         have H := HC19.out; clear HC19
         by_cases c20 : a0_0 = 2
         ·rw [if_pos c20] at H
          have c20b0 : (a0_0 == 2) = true := beq_iff_eq.mpr c20
          have c20b1 : (a0_0 != 2) = false := bne_eq_false_iff_eq.mpr c20
          clear c20
          (first | rw [c20b0] | (simp only [i64_w, i32_w]; rw [c20b0]) | skip)
          have H' := Aside0.mk H; clear H
          go_wp2
          go_meet
          case rel => exact ⟨_, ((a0_0 == 2)), zu, H', ⟨by have := HJ1.out; have := HJ9.out; first | omega | exact Nat.le_refl _⟩, zk BK185, ⟨zy HB⟩⟩
         ·rw [if_neg c20] at H
          have c20b0 : (a0_0 == 2) = false := beq_eq_false_iff_ne.mpr c20
          have c20b1 : (a0_0 != 2) = true := bne_iff_ne.mpr c20
          (first | rw [c20b0] | (simp only [i64_w, i32_w]; rw [c20b0]) | skip)
          have H' := Aside0.mk H; clear H
          go_wp2
          go_meet
          case rel => exact ⟨_, ((a0_0 == 4)), zu, H', ⟨by have := HJ1.out; have := HJ9.out; first | omega | exact Nat.le_refl _⟩, zk BK185, ⟨zy HB⟩⟩
        case rest =>
         clear HC19
         obtain ⟨kq, x31_18, rfl, HA, HJ18, BK185, HB⟩ := hcut
         cases kq with
         | zero => exact absurd HA.out (by simp [impl_isClue.j2])
         | succ kj18 =>
          have H := HA.out; clear HA; simp only [impl_isClue.j2] at H
          by_cases c21 : x31_18 = true
          ·subst c21
           rw [if_pos rfl] at H
           obtain rfl := Option.some.inj H
           obtain ⟨_, _, _, _, _, _⟩ := zc3 BK185
           go_wp2
           go_ret
           exact ⟨zt, zy HB⟩
          ·replace c21 := Bool.eq_false_iff.mpr c21
           subst c21; rw [if_neg (show ¬ (false = true) by decide)] at H
           by_cases c23 : a0_0 = 3
           ·rw [if_pos c23] at H
            have c23b0 : (a0_0 == 3) = true := beq_iff_eq.mpr c23
            have c23b1 : (a0_0 != 3) = false := bne_eq_false_iff_eq.mpr c23
            clear c23
            by_cases c24 : a0_1 ≤ 1
            ·rw [if_pos c24] at H
             have c24b0 : decide (a0_1 ≤ 1) = true := decide_eq_true c24; clear c24
             obtain rfl := Option.some.inj H
             obtain ⟨_, _, _, _, _, _⟩ := zc3 BK185
             go_wp2
             go_ret
             exact ⟨zt, zy HB⟩
            ·rw [if_neg c24] at H
             have c24b0 : decide (a0_1 ≤ 1) = false := decide_eq_false c24; clear c24
             obtain rfl := Option.some.inj H
             obtain ⟨_, _, _, _, _, _⟩ := zc3 BK185
             go_wp2
             go_ret
             exact ⟨zt, zy HB⟩
           ·rw [if_neg c23] at H
            have c23b0 : (a0_0 == 3) = false := beq_eq_false_iff_ne.mpr c23
            have c23b1 : (a0_0 != 3) = true := bne_iff_ne.mpr c23
            obtain rfl := Option.some.inj H
            go_wp2
            go_ret
            exact ⟨zt, zy HB⟩


/-! ### impl_IsPuzzle_1: function 74 -/
def impl_IsPuzzle_1.f (k : Nat) (a0_0 : Int) (a0_1 : Int) (a0_2 : Int) : Option (Bool) := (impl_isClue.f k a0_0 a0_1 a0_2).bind fun t189 => (some (!t189))
set_option maxHeartbeats 8000000 in
set_option maxRecDepth 100000 in
theorem impl_IsPuzzle_1.calls (k : Nat) (a0_0 : Int) (a0_1 : Int) (a0_2 : Int) (r : Bool) (w : World) (h : impl_IsPuzzle_1.f k a0_0 a0_1 a0_2 = some r) :
  Calls Try.prog 74 #[.agg #[.int .i64 a0_0, .int .i64 a0_1, .int .i64 a0_2]] w fun e w' => e = .returned (.bool r) ∧ Below w.heap.size w w' := by
 have hu43 := Try.underlying43
 have HB := Aside0.mk (Below.refl w.heap.size w)
 have H : ((impl_isClue.f k a0_0 a0_1 a0_2).bind fun t189 => (some (!t189))) = some r := h
 clear h; replace H := Option.bind_eq_some_iff.mp H; obtain ⟨t189, A20, H⟩ := H
 replace H : (some (!t189)) = some r := H
 have A2 := Aside0.mk A20; clear A20
 obtain rfl := Option.some.inj H
 go_enter Try.func74, Try.ntmps74
 go_wp2_with (first | ((with_reducible refine gate_dst (N := 1) rfl ?_); refine zE 1 #[.int .i64 a0_0, .int .i64 a0_1, .int .i64 a0_2] 43 ?_; intro gb188 hg w3 hbox hb; have BK188 := Aside0.mk (hbox); have GW188 := zg HB hg; have GE188 := GW188; replace HB := zh HB hb; clear hb hbox hg; obtain ⟨_, _, _, _, _, _⟩ := zc3 BK188) | ((with_reducible refine gate_callee (f := 68) rfl ?_); refine zG (some 4) Try.func68 #[.agg #[.int .i64 a0_0, .int .i64 a0_1, .int .i64 a0_2]] ?_; (with_reducible refine (impl_isClue.calls k a0_0 a0_1 a0_2 t189 _ A2.out).mono ?_); rintro e w5 ⟨rfl, hb⟩; refine ⟨_, rfl, ?_⟩; replace BK188 := zb BK188 hb; replace HB := zh HB hb; clear hb))
 go_ret
 exact ⟨zt, zy HB⟩


/-! ### anyIsPuzzle: function 0 -/
def anyIsPuzzle.f (k : Nat) (l : List S43) : Option Bool := cAny (fun x => impl_IsPuzzle_1.f k x.f0 x.f1 x.f2) l
theorem anyIsPuzzle.calls (k : Nat) (A0 : Option Addr) (c0 : Nat) (l0 : List S43) (r : Bool) (w : World) (hr0 : Kd.C k43 w A0 l0.length l0) (hc0 : l0.length ≤ c0) (h : anyIsPuzzle.f k l0 = some r) :
  Calls Try.prog 73 #[.slice A0 l0.length c0, .func (.func 74) #[] #[]] w fun e w' => e = .returned (.bool r) ∧ Below w.heap.size w w' :=
 cContainsFunc 74 #[] _ (enters_of Try.func74 (by kernel_rfl) rfl) A0 c0 l0 r w (fun x b W hb _ => (impl_IsPuzzle_1.calls k x.f0 x.f1 x.f2 b W hb).mono fun _ _ h => h) hr0 hc0 h



/-! ### impl_IsPuzzle: function 26 -/
def impl_IsPuzzle.f (k : Nat) (a0_0 : Int) (l0_1 : List (S43)) : Option (Bool) := (impl_isSmall.f a0_0).bind fun t191 => (if t191 = true then (if (l0_1.length : Int) ≤ 6 then ((anyIsPuzzle.f k l0_1).bind fun t192 => (some (!t192))) else (some false)) else (some false))
set_option maxHeartbeats 8000000 in
set_option maxRecDepth 100000 in
theorem impl_IsPuzzle.calls (k : Nat) (a0_0 : Int) (A0_1 : Option Addr) (c0_1 : Nat) (l0_1 : List (S43)) (r : Bool) (w : World) (hr0_1 : Kd.C k43 w A0_1 l0_1.length l0_1) (hc0_1 : l0_1.length ≤ c0_1) (h : impl_IsPuzzle.f k a0_0 l0_1 = some r) :
  Calls Try.prog 26 #[.agg #[.int .i64 a0_0, .slice A0_1 l0_1.length c0_1]] w fun e w' => e = .returned (.bool r) ∧ Below w.heap.size w w' := by
 have hu28 := Try.underlying28; have HR0_1 := Aside0.mk hr0_1; have HC0_1 := Aside0.mk hc0_1; clear hr0_1 hc0_1
 have HB := Aside0.mk (Below.refl w.heap.size w)
 have H : ((impl_isSmall.f a0_0).bind fun t191 => (if t191 = true then (if (l0_1.length : Int) ≤ 6 then ((anyIsPuzzle.f k l0_1).bind fun t192 => (some (!t192))) else (some false)) else (some false))) = some r := h
 clear h; replace H := Option.bind_eq_some_iff.mp H; obtain ⟨t191, A20, H⟩ := H
 replace H : (if t191 = true then (if (l0_1.length : Int) ≤ 6 then ((anyIsPuzzle.f k l0_1).bind fun t192 => (some (!t192))) else (some false)) else (some false)) = some r := H
 have A2 := Aside0.mk A20; clear A20
 by_cases c3 : t191 = true
 ·subst c3
  rw [if_pos rfl] at H
  by_cases c4 : (l0_1.length : Int) ≤ 6
  ·rw [if_pos c4] at H
   have c4b0 : decide ((l0_1.length : Int) ≤ 6) = true := decide_eq_true c4
   have c4b1 : decide (l0_1.length ≤ 6) = true := decide_eq_true (by omega)
   clear c4; replace H := Option.bind_eq_some_iff.mp H; obtain ⟨t192, A50, H⟩ := H
   replace H : (some (!t192)) = some r := H
   have A5 := Aside0.mk A50; clear A50
   obtain rfl := Option.some.inj H
   go_enter Try.func26, Try.ntmps26
   go_wp2_with (first | ((with_reducible refine gate_dst (N := 1) rfl ?_); (try (refine gate_guard (by rfl) ?_; dsimp only)); refine zE 1 #[.int .i64 a0_0, .slice A0_1 l0_1.length c0_1] 28 ?_; intro gb190 hg w6 hbox hb; have BK190 := Aside0.mk (hbox); have GW190 := zg HB hg; have GE190 := GW190; replace HB := zh HB hb; clear hb hbox hg; obtain ⟨_, _, _, _⟩ := zc2 BK190) | ((with_reducible refine gate_callee (f := 72) rfl ?_); refine zG (some 5) Try.func72 #[.int .i64 a0_0] ?_; (with_reducible refine (impl_isSmall.calls a0_0 true _ A2.out).mono ?_); rintro e w' ⟨rfl, ⟨nd, rfl⟩⟩; refine ⟨_, rfl, ?_⟩) | (go_at_call 73; (with_reducible refine (anyIsPuzzle.calls k _ _ l0_1 t192 _ ?side1 ?side2 A5.out).mono ?_); (case side1 => repeat (first | exact (Kd.C_below HR0_1.out (zy HB)) | (with_reducible refine Kd.C_alloc ?_ _) | (with_reducible refine Kd.C_drewN ?_ _) | (with_reducible refine Kd.C_drew ?_))); (case side2 => exact HC0_1.out); rintro e w8 ⟨rfl, hb⟩; replace BK190 := zb BK190 hb; replace HB := zh HB hb; clear hb))
   go_ret
   exact ⟨zt, zy HB⟩
  ·rw [if_neg c4] at H
   have c4b0 : decide ((l0_1.length : Int) ≤ 6) = false := decide_eq_false c4
   have c4b1 : decide (l0_1.length ≤ 6) = false := decide_eq_false (by omega)
   clear c4
   obtain rfl := Option.some.inj H
   go_enter Try.func26, Try.ntmps26
   go_wp2_with (first | ((with_reducible refine gate_dst (N := 1) rfl ?_); (try (refine gate_guard (by rfl) ?_; dsimp only)); refine zE 1 #[.int .i64 a0_0, .slice A0_1 l0_1.length c0_1] 28 ?_; intro gb190 hg w9 hbox hb; have BK190 := Aside0.mk (hbox); have GW190 := zg HB hg; have GE190 := GW190; replace HB := zh HB hb; clear hb hbox hg; obtain ⟨_, _, _, _⟩ := zc2 BK190) | ((with_reducible refine gate_callee (f := 72) rfl ?_); refine zG (some 5) Try.func72 #[.int .i64 a0_0] ?_; (with_reducible refine (impl_isSmall.calls a0_0 true _ A2.out).mono ?_); rintro e w' ⟨rfl, ⟨nd, rfl⟩⟩; refine ⟨_, rfl, ?_⟩))
   go_ret
   exact ⟨zt, zy HB⟩
 ·replace c3 := Bool.eq_false_iff.mpr c3
  subst c3; rw [if_neg (show ¬ (false = true) by decide)] at H
  obtain rfl := Option.some.inj H
  go_enter Try.func26, Try.ntmps26
  go_wp2_with (first | ((with_reducible refine gate_dst (N := 1) rfl ?_); (try (refine gate_guard (by rfl) ?_; dsimp only)); refine zE 1 #[.int .i64 a0_0, .slice A0_1 l0_1.length c0_1] 28 ?_; intro gb190 hg w11 hbox hb; have BK190 := Aside0.mk (hbox); have GW190 := zg HB hg; have GE190 := GW190; replace HB := zh HB hb; clear hb hbox hg; obtain ⟨_, _, _, _⟩ := zc2 BK190) | ((with_reducible refine gate_callee (f := 72) rfl ?_); refine zG (some 5) Try.func72 #[.int .i64 a0_0] ?_; (with_reducible refine (impl_isSmall.calls a0_0 false _ A2.out).mono ?_); rintro e w' ⟨rfl, ⟨nd, rfl⟩⟩; refine ⟨_, rfl, ?_⟩))
  go_ret
  exact ⟨zt, zy HB⟩


/-! ### impl_isWide: function 92 -/
def impl_isWide.f (a0 : Int) : Option (Bool) := (impl_within.f a0 1 1000).bind fun t193 => (some t193)
set_option maxHeartbeats 8000000 in
set_option maxRecDepth 100000 in
theorem impl_isWide.calls (a0 : Int) (r : Bool) (w : World) (h : impl_isWide.f a0 = some r) :
  Calls Try.prog 92 #[.int .i64 a0] w fun e w' => e = .returned (.bool r) ∧ Drawn0 w w' := by
 have H : ((impl_within.f a0 1 1000).bind fun t193 => (some t193)) = some r := h
 clear h; replace H := Option.bind_eq_some_iff.mp H; obtain ⟨t193, A20, H⟩ := H
 replace H : (some t193) = some r := H
 have A2 := Aside0.mk A20; clear A20
 obtain rfl := Option.some.inj H
 go_enter Try.func92, Try.ntmps92
 go_wp2_with (first | ((with_reducible refine gate_callee (f := 59) rfl ?_); refine zG (some 4) Try.func59 #[.int .i64 a0, .int .i64 1, .int .i64 1000] ?_; (with_reducible refine (impl_within.calls a0 1 1000 t193 _ A2.out).mono ?_); rintro e w' ⟨rfl, ⟨nd, rfl⟩⟩; refine ⟨_, rfl, ?_⟩))
 go_ret
 exact ⟨by first | rfl | (simp; done) | (simp [*]; done), by repeat (first | exact Drawn0.refl _ | apply Drawn0.step)⟩


/-! ### impl_AreLadders: function 66 -/
def impl_AreLadders.f (a0_0 : Int) (a0_1 : Int) (a0_2 : Int) : Option (Bool) := (impl_isWide.f a0_0).bind fun t195 => (if t195 = true then ((impl_isWide.f a0_1).bind fun t196 => (if t196 = true then ((impl_isWide.f a0_2).bind fun t197 => (some t197)) else (some false))) else (some false))
set_option maxHeartbeats 8000000 in
set_option maxRecDepth 100000 in
theorem impl_AreLadders.calls (a0_0 : Int) (a0_1 : Int) (a0_2 : Int) (r : Bool) (w : World) (h : impl_AreLadders.f a0_0 a0_1 a0_2 = some r) :
  Calls Try.prog 66 #[.agg #[.int .i64 a0_0, .int .i64 a0_1, .int .i64 a0_2]] w fun e w' => e = .returned (.bool r) ∧ Below w.heap.size w w' := by
 have hu41 := Try.underlying41
 have HB := Aside0.mk (Below.refl w.heap.size w)
 have H : ((impl_isWide.f a0_0).bind fun t195 => (if t195 = true then ((impl_isWide.f a0_1).bind fun t196 => (if t196 = true then ((impl_isWide.f a0_2).bind fun t197 => (some t197)) else (some false))) else (some false))) = some r := h
 clear h; replace H := Option.bind_eq_some_iff.mp H; obtain ⟨t195, A20, H⟩ := H; (try dsimp only at H); have A2 := Aside0.mk A20; clear A20
 by_cases c3 : t195 = true
 ·subst c3
  rw [if_pos rfl] at H; replace H := Option.bind_eq_some_iff.mp H; obtain ⟨t196, A40, H⟩ := H
  replace H : (if t196 = true then ((impl_isWide.f a0_2).bind fun t197 => (some t197)) else (some false)) = some r := H
  have A4 := Aside0.mk A40; clear A40
  by_cases c5 : t196 = true
  ·subst c5
   rw [if_pos rfl] at H; replace H := Option.bind_eq_some_iff.mp H; obtain ⟨t197, A60, H⟩ := H
   replace H : (some t197) = some r := H
   have A6 := Aside0.mk A60; clear A60
   obtain rfl := Option.some.inj H
   go_enter Try.func66, Try.ntmps66
   go_wp2_with (first | ((with_reducible refine gate_dst (N := 1) rfl ?_); refine zE 1 #[.int .i64 a0_0, .int .i64 a0_1, .int .i64 a0_2] 41 ?_; intro gb194 hg w7 hbox hb; have BK194 := Aside0.mk (hbox); have GW194 := zg HB hg; have GE194 := GW194; replace HB := zh HB hb; clear hb hbox hg; obtain ⟨_, _, _, _, _, _⟩ := zc3 BK194) | ((with_reducible refine gate_callee (f := 92) rfl ?_); refine zG (some 5) Try.func92 #[.int .i64 a0_0] ?_; (with_reducible refine (impl_isWide.calls a0_0 true _ A2.out).mono ?_); rintro e w' ⟨rfl, ⟨nd, rfl⟩⟩; refine ⟨_, rfl, ?_⟩) | (go_at_call 92; (with_reducible refine (impl_isWide.calls a0_1 true _ A4.out).mono ?_); rintro e w' ⟨rfl, ⟨nd, rfl⟩⟩) | (go_at_call 92; (with_reducible refine (impl_isWide.calls a0_2 t197 _ A6.out).mono ?_); rintro e w' ⟨rfl, ⟨nd, rfl⟩⟩))
   go_ret
   exact ⟨zt, zy HB⟩
  ·replace c5 := Bool.eq_false_iff.mpr c5
   subst c5; rw [if_neg (show ¬ (false = true) by decide)] at H
   obtain rfl := Option.some.inj H
   go_enter Try.func66, Try.ntmps66
   go_wp2_with (first | ((with_reducible refine gate_dst (N := 1) rfl ?_); refine zE 1 #[.int .i64 a0_0, .int .i64 a0_1, .int .i64 a0_2] 41 ?_; intro gb194 hg w9 hbox hb; have BK194 := Aside0.mk (hbox); have GW194 := zg HB hg; have GE194 := GW194; replace HB := zh HB hb; clear hb hbox hg; obtain ⟨_, _, _, _, _, _⟩ := zc3 BK194) | ((with_reducible refine gate_callee (f := 92) rfl ?_); refine zG (some 5) Try.func92 #[.int .i64 a0_0] ?_; (with_reducible refine (impl_isWide.calls a0_0 true _ A2.out).mono ?_); rintro e w' ⟨rfl, ⟨nd, rfl⟩⟩; refine ⟨_, rfl, ?_⟩) | (go_at_call 92; (with_reducible refine (impl_isWide.calls a0_1 false _ A4.out).mono ?_); rintro e w' ⟨rfl, ⟨nd, rfl⟩⟩))
   go_ret
   exact ⟨zt, zy HB⟩
 ·replace c3 := Bool.eq_false_iff.mpr c3
  subst c3; rw [if_neg (show ¬ (false = true) by decide)] at H
  obtain rfl := Option.some.inj H
  go_enter Try.func66, Try.ntmps66
  go_wp2_with (first | ((with_reducible refine gate_dst (N := 1) rfl ?_); refine zE 1 #[.int .i64 a0_0, .int .i64 a0_1, .int .i64 a0_2] 41 ?_; intro gb194 hg w11 hbox hb; have BK194 := Aside0.mk (hbox); have GW194 := zg HB hg; have GE194 := GW194; replace HB := zh HB hb; clear hb hbox hg; obtain ⟨_, _, _, _, _, _⟩ := zc3 BK194) | ((with_reducible refine gate_callee (f := 92) rfl ?_); refine zG (some 5) Try.func92 #[.int .i64 a0_0] ?_; (with_reducible refine (impl_isWide.calls a0_0 false _ A2.out).mono ?_); rintro e w' ⟨rfl, ⟨nd, rfl⟩⟩; refine ⟨_, rfl, ?_⟩))
  go_ret
  exact ⟨zt, zy HB⟩


/-! ### impl_gcd: function 93 -/
def impl_gcd.l0 : Nat → Int → Int → Option (Int)
 | 0, _, _ => none
 | k + 1, x0, x1 => if x1 = 0 then (some (mx x0 (wrap64 (-x0)))) else (impl_gcd.l0 k x1 (Int.tmod x0 x1))
def impl_gcd.f (k : Nat) (a0 : Int) (a1 : Int) : Option (Int) := impl_gcd.l0 k a0 a1
set_option maxHeartbeats 8000000 in
set_option maxRecDepth 100000 in
theorem impl_gcd.calls (k : Nat) (a0 : Int) (a1 : Int) (r : Int) (w : World) (h : impl_gcd.f k a0 a1 = some r) :
  Calls Try.prog 93 #[.int .i64 a0, .int .i64 a1] w fun e w' => e = .returned (.int .i64 r) ∧ Below w.heap.size w w' := by
 have HB := Aside0.mk (Below.refl w.heap.size w)
 have H : (impl_gcd.l0 k a0 a1) = some r := h
 clear h; have H' := Aside0.mk H; clear H
 go_enter Try.func93, Try.ntmps93
 go_wp2
 repeat (go_quiet (fail); try go_wp2)
 go_loopg [0, 1] k (fun kq v0 v1 w' => ∃ (x0_1 : Int) (x1_1 : Int), v0 = .int .i64 x0_1 ∧ v1 = .int .i64 x1_1 ∧ Aside0 (impl_gcd.l0 kq x0_1 x1_1 = some r) ∧ Aside0 (kq ≤ k) ∧ Aside0 (Below w.heap.size w w'))
 case atStart => exact ⟨(a0), (a1), zu, zu, H', ⟨Nat.le_refl _⟩, ⟨zy HB⟩⟩
 case round =>
  clear H'
  obtain ⟨x0_1, x1_1, rfl, rfl, HA, HK1, HB⟩ := hrel
  cases gk with
  | zero => exact absurd HA.out (by simp [impl_gcd.l0])
  | succ k1 =>
   have H := HA.out; clear HA; simp only [impl_gcd.l0] at H
   by_cases c3 : x1_1 = 0
   ·rw [if_pos c3] at H
    have c3b0 : (x1_1 == 0) = true := beq_iff_eq.mpr c3
    have c3b1 : (x1_1 != 0) = false := bne_eq_false_iff_eq.mpr c3
    clear c3
    obtain ⟨ji4, hji4⟩ : ∃ j_ : Int, (mx x0_1 (wrap64 (-x0_1))) = j_ := ⟨_, rfl⟩
    replace H : (some ji4) = some r := by first | (rw [hji4] at H; exact H) | (simp only [hji4] at H ⊢; exact H)
    have hji4_ : (if x0_1 < (wrap64 (-x0_1)) then (wrap64 (-x0_1)) else x0_1) = ji4 := hji4
    obtain rfl := Option.some.inj H
    go_wp2
    repeat (go_quiet (fail); try go_wp2)
    go_ret
    exact ⟨by first | rfl | (simp [errW_none, errW_some] <;> rfl) | (simp only [← hji4]; first | rfl | (simp [errW_none, errW_some] <;> rfl)) | (simp [*, errW_none, errW_some] <;> rfl), zy HB⟩
   ·rw [if_neg c3] at H
    have c3b0 : (x1_1 == 0) = false := beq_eq_false_iff_ne.mpr c3
    have c3b1 : (x1_1 != 0) = true := bne_iff_ne.mpr c3
    have H' := Aside0.mk H; clear H
    go_wp2
    repeat (go_quiet (fail); try go_wp2)
    go_roundg k1
    case measure => have := HK1.out; omega
    case rel => exact ⟨(x1_1), (Int.tmod x0_1 x1_1), zu, zu, H', ⟨by have := HK1.out; omega⟩, ⟨zy HB⟩⟩


/-! ### impl_fraction: function 67 -/
def impl_fraction.f (k : Nat) (a0 : Int) (a1 : Int) : Option (Int × Int × Bool) := (impl_gcd.f k a0 a1).bind fun t198 => (if t198 = 0 then (none) else (some (wrap64 (Int.tdiv a0 t198), wrap64 (Int.tdiv a1 t198), true)))
set_option maxHeartbeats 8000000 in
set_option maxRecDepth 100000 in
theorem impl_fraction.calls (k : Nat) (a0 : Int) (a1 : Int) (r1 : Int) (r2 : Int) (r3 : Bool) (w : World) (h : impl_fraction.f k a0 a1 = some (r1, r2, r3)) :
  Calls Try.prog 67 #[.int .i64 a0, .int .i64 a1] w fun e w' => e = .returned (.tuple #[.int .i64 r1, .int .i64 r2, .bool r3]) ∧ Below w.heap.size w w' := by
 have HB := Aside0.mk (Below.refl w.heap.size w)
 have H : ((impl_gcd.f k a0 a1).bind fun t198 => (if t198 = 0 then (none) else (some (wrap64 (Int.tdiv a0 t198), wrap64 (Int.tdiv a1 t198), true)))) = some (r1, r2, r3) := h
 clear h; replace H := Option.bind_eq_some_iff.mp H; obtain ⟨t198, A30, H⟩ := H
 replace H : (if t198 = 0 then (none) else (some (wrap64 (Int.tdiv a0 t198), wrap64 (Int.tdiv a1 t198), true))) = some (r1, r2, r3) := H
 have A3 := Aside0.mk A30; clear A30
 by_cases c4 : t198 = 0
 ·rw [if_pos c4] at H
  exact absurd H zO0_3
 ·rw [if_neg c4] at H
  have c4b0 : (t198 == 0) = false := beq_eq_false_iff_ne.mpr c4
  have c4b1 : (t198 != 0) = true := bne_iff_ne.mpr c4
  simp only [Option.some.injEq, Prod.mk.injEq] at H; obtain ⟨rfl, rfl, rfl⟩ := H
  go_enter Try.func67, Try.ntmps67
  go_wp2_with (first | (go_at_call 93; (with_reducible refine (impl_gcd.calls k a0 a1 t198 _ A3.out).mono ?_); rintro e w5 ⟨rfl, hb⟩; replace HB := zh HB hb; clear hb))
  repeat (go_quiet (first | (go_at_call 93; (with_reducible refine (impl_gcd.calls k a0 a1 t198 _ A3.out).mono ?_); rintro e w5 ⟨rfl, hb⟩; replace HB := zh HB hb; clear hb)); try go_wp2_with (first | (go_at_call 93; (with_reducible refine (impl_gcd.calls k a0 a1 t198 _ A3.out).mono ?_); rintro e w5 ⟨rfl, hb⟩; replace HB := zh HB hb; clear hb)))
  go_ret3
  exact ⟨zt, zy HB⟩


/-! ### impl_CrossHeight: function 22 -/
def impl_CrossHeight.f (k : Nat) (a0_0 : Int) (a0_1 : Int) (a0_2 : Int) : Option (Int × Int × Bool) := (impl_AreLadders.f a0_0 a0_1 a0_2).bind fun t200 => (if t200 = true then ((impl_fraction.f k (wrap64 (a0_1 * a0_2)) (wrap64 (a0_1 + a0_2))).bind fun bt201 => (some (bt201.1, bt201.2.1, bt201.2.2))) else (some (0, 0, false)))
set_option maxHeartbeats 8000000 in
set_option maxRecDepth 100000 in
theorem impl_CrossHeight.calls (k : Nat) (a0_0 : Int) (a0_1 : Int) (a0_2 : Int) (r1 : Int) (r2 : Int) (r3 : Bool) (w : World) (h : impl_CrossHeight.f k a0_0 a0_1 a0_2 = some (r1, r2, r3)) :
  Calls Try.prog 22 #[.agg #[.int .i64 a0_0, .int .i64 a0_1, .int .i64 a0_2]] w fun e w' => e = .returned (.tuple #[.int .i64 r1, .int .i64 r2, .bool r3]) ∧ Below w.heap.size w w' := by
 have hu41 := Try.underlying41
 have HB := Aside0.mk (Below.refl w.heap.size w)
 have H : ((impl_AreLadders.f a0_0 a0_1 a0_2).bind fun t200 => (if t200 = true then ((impl_fraction.f k (wrap64 (a0_1 * a0_2)) (wrap64 (a0_1 + a0_2))).bind fun bt201 => (some (bt201.1, bt201.2.1, bt201.2.2))) else (some (0, 0, false)))) = some (r1, r2, r3) := h
 clear h; replace H := Option.bind_eq_some_iff.mp H; obtain ⟨t200, A20, H⟩ := H; (try dsimp only at H); have A2 := Aside0.mk A20; clear A20
 by_cases c3 : t200 = true
 ·subst c3
  rw [if_pos rfl] at H; replace H := Option.bind_eq_some_iff.mp H; obtain ⟨⟨t201, t202, t203⟩, A40, H⟩ := H
  replace H : (some (t201, t202, t203)) = some (r1, r2, r3) := H
  have A4 := Aside0.mk A40; clear A40; simp only [Option.some.injEq, Prod.mk.injEq] at H; obtain ⟨rfl, rfl, rfl⟩ := H
  go_enter Try.func22, Try.ntmps22
  go_wp2_with (first | ((with_reducible refine gate_dst (N := 1) rfl ?_); refine zE 1 #[.int .i64 a0_0, .int .i64 a0_1, .int .i64 a0_2] 41 ?_; intro gb199 hg w5 hbox hb; have BK199 := Aside0.mk (hbox); have GW199 := zg HB hg; have GE199 := GW199; replace HB := zh HB hb; clear hb hbox hg; obtain ⟨_, _, _, _, _, _⟩ := zc3 BK199) | ((with_reducible refine gate_callee (f := 66) rfl ?_); refine zG (some 6) Try.func66 #[.agg #[.int .i64 a0_0, .int .i64 a0_1, .int .i64 a0_2]] ?_; (with_reducible refine (impl_AreLadders.calls a0_0 a0_1 a0_2 true _ A2.out).mono ?_); rintro e w7 ⟨rfl, hb⟩; refine ⟨_, rfl, ?_⟩; replace BK199 := zb BK199 hb; replace HB := zh HB hb; clear hb; obtain ⟨_, _, _, _, _, _⟩ := zc3 BK199) | ((with_reducible refine gate_callee (f := 67) rfl ?_); refine zG (some 18) Try.func67 #[.int .i64 (wrap64 (a0_1 * a0_2)), .int .i64 (wrap64 (a0_1 + a0_2))] ?_; (with_reducible refine (impl_fraction.calls k (wrap64 (a0_1 * a0_2)) (wrap64 (a0_1 + a0_2)) t201 t202 t203 _ A4.out).mono ?_); rintro e w9 ⟨rfl, hb⟩; refine ⟨_, rfl, ?_⟩; replace BK199 := zb BK199 hb; replace HB := zh HB hb; clear hb))
  go_ret3
  exact ⟨zt, zy HB⟩
 ·replace c3 := Bool.eq_false_iff.mpr c3
  subst c3; rw [if_neg (show ¬ (false = true) by decide)] at H; simp only [Option.some.injEq, Prod.mk.injEq] at H; obtain ⟨rfl, rfl, rfl⟩ := H
  go_enter Try.func22, Try.ntmps22
  go_wp2_with (first | ((with_reducible refine gate_dst (N := 1) rfl ?_); refine zE 1 #[.int .i64 a0_0, .int .i64 a0_1, .int .i64 a0_2] 41 ?_; intro gb199 hg w10 hbox hb; have BK199 := Aside0.mk (hbox); have GW199 := zg HB hg; have GE199 := GW199; replace HB := zh HB hb; clear hb hbox hg; obtain ⟨_, _, _, _, _, _⟩ := zc3 BK199) | ((with_reducible refine gate_callee (f := 66) rfl ?_); refine zG (some 6) Try.func66 #[.agg #[.int .i64 a0_0, .int .i64 a0_1, .int .i64 a0_2]] ?_; (with_reducible refine (impl_AreLadders.calls a0_0 a0_1 a0_2 false _ A2.out).mono ?_); rintro e w12 ⟨rfl, hb⟩; refine ⟨_, rfl, ?_⟩; replace BK199 := zb BK199 hb; replace HB := zh HB hb; clear hb))
  go_ret3
  exact ⟨zt, zy HB⟩


/-! ### impl_CrossPlace: function 24 -/
def impl_CrossPlace.f (k : Nat) (a0_0 : Int) (a0_1 : Int) (a0_2 : Int) : Option (Int × Int × Bool) := (impl_AreLadders.f a0_0 a0_1 a0_2).bind fun t205 => (if t205 = true then ((impl_fraction.f k (wrap64 (a0_1 * a0_0)) (wrap64 (a0_1 + a0_2))).bind fun bt206 => (some (bt206.1, bt206.2.1, bt206.2.2))) else (some (0, 0, false)))
set_option maxHeartbeats 8000000 in
set_option maxRecDepth 100000 in
theorem impl_CrossPlace.calls (k : Nat) (a0_0 : Int) (a0_1 : Int) (a0_2 : Int) (r1 : Int) (r2 : Int) (r3 : Bool) (w : World) (h : impl_CrossPlace.f k a0_0 a0_1 a0_2 = some (r1, r2, r3)) :
  Calls Try.prog 24 #[.agg #[.int .i64 a0_0, .int .i64 a0_1, .int .i64 a0_2]] w fun e w' => e = .returned (.tuple #[.int .i64 r1, .int .i64 r2, .bool r3]) ∧ Below w.heap.size w w' := by
 have hu41 := Try.underlying41
 have HB := Aside0.mk (Below.refl w.heap.size w)
 have H : ((impl_AreLadders.f a0_0 a0_1 a0_2).bind fun t205 => (if t205 = true then ((impl_fraction.f k (wrap64 (a0_1 * a0_0)) (wrap64 (a0_1 + a0_2))).bind fun bt206 => (some (bt206.1, bt206.2.1, bt206.2.2))) else (some (0, 0, false)))) = some (r1, r2, r3) := h
 clear h; replace H := Option.bind_eq_some_iff.mp H; obtain ⟨t205, A20, H⟩ := H; (try dsimp only at H); have A2 := Aside0.mk A20; clear A20
 by_cases c3 : t205 = true
 ·subst c3
  rw [if_pos rfl] at H; replace H := Option.bind_eq_some_iff.mp H; obtain ⟨⟨t206, t207, t208⟩, A40, H⟩ := H
  replace H : (some (t206, t207, t208)) = some (r1, r2, r3) := H
  have A4 := Aside0.mk A40; clear A40; simp only [Option.some.injEq, Prod.mk.injEq] at H; obtain ⟨rfl, rfl, rfl⟩ := H
  go_enter Try.func24, Try.ntmps24
  go_wp2_with (first | ((with_reducible refine gate_dst (N := 1) rfl ?_); refine zE 1 #[.int .i64 a0_0, .int .i64 a0_1, .int .i64 a0_2] 41 ?_; intro gb204 hg w5 hbox hb; have BK204 := Aside0.mk (hbox); have GW204 := zg HB hg; have GE204 := GW204; replace HB := zh HB hb; clear hb hbox hg; obtain ⟨_, _, _, _, _, _⟩ := zc3 BK204) | ((with_reducible refine gate_callee (f := 66) rfl ?_); refine zG (some 6) Try.func66 #[.agg #[.int .i64 a0_0, .int .i64 a0_1, .int .i64 a0_2]] ?_; (with_reducible refine (impl_AreLadders.calls a0_0 a0_1 a0_2 true _ A2.out).mono ?_); rintro e w7 ⟨rfl, hb⟩; refine ⟨_, rfl, ?_⟩; replace BK204 := zb BK204 hb; replace HB := zh HB hb; clear hb; obtain ⟨_, _, _, _, _, _⟩ := zc3 BK204) | ((with_reducible refine gate_callee (f := 67) rfl ?_); refine zG (some 18) Try.func67 #[.int .i64 (wrap64 (a0_1 * a0_0)), .int .i64 (wrap64 (a0_1 + a0_2))] ?_; (with_reducible refine (impl_fraction.calls k (wrap64 (a0_1 * a0_0)) (wrap64 (a0_1 + a0_2)) t206 t207 t208 _ A4.out).mono ?_); rintro e w9 ⟨rfl, hb⟩; refine ⟨_, rfl, ?_⟩; replace BK204 := zb BK204 hb; replace HB := zh HB hb; clear hb))
  go_ret3
  exact ⟨zt, zy HB⟩
 ·replace c3 := Bool.eq_false_iff.mpr c3
  subst c3; rw [if_neg (show ¬ (false = true) by decide)] at H; simp only [Option.some.injEq, Prod.mk.injEq] at H; obtain ⟨rfl, rfl, rfl⟩ := H
  go_enter Try.func24, Try.ntmps24
  go_wp2_with (first | ((with_reducible refine gate_dst (N := 1) rfl ?_); refine zE 1 #[.int .i64 a0_0, .int .i64 a0_1, .int .i64 a0_2] 41 ?_; intro gb204 hg w10 hbox hb; have BK204 := Aside0.mk (hbox); have GW204 := zg HB hg; have GE204 := GW204; replace HB := zh HB hb; clear hb hbox hg; obtain ⟨_, _, _, _, _, _⟩ := zc3 BK204) | ((with_reducible refine gate_callee (f := 66) rfl ?_); refine zG (some 6) Try.func66 #[.agg #[.int .i64 a0_0, .int .i64 a0_1, .int .i64 a0_2]] ?_; (with_reducible refine (impl_AreLadders.calls a0_0 a0_1 a0_2 false _ A2.out).mono ?_); rintro e w12 ⟨rfl, hb⟩; refine ⟨_, rfl, ?_⟩; replace BK204 := zb BK204 hb; replace HB := zh HB hb; clear hb))
  go_ret3
  exact ⟨zt, zy HB⟩


/-! ### impl_rootOf: function 71 -/
mutual
def impl_rootOf.l0 : Nat → Int → Int → Int → Option (Int × Bool)
 | 0, _, _, _ => none
 | k + 1, x0, x4, x5 => if (wrap64 (x5 * x5)) < x0 then (impl_rootOf.l0 k x0 x4 (wrap64 (x5 * 2))) else (impl_rootOf.l1 k x0 x4 x5)
def impl_rootOf.l1 : Nat → Int → Int → Int → Option (Int × Bool)
 | 0, _, _, _ => none
 | k + 1, x0, x4, x5 => if x4 < x5 then (if (wrap64 ((wrap64 (Int.tdiv (wrap64 (x4 + x5)) 2)) * (wrap64 (Int.tdiv (wrap64 (x4 + x5)) 2)))) < x0 then (impl_rootOf.l1 k x0 (wrap64 ((wrap64 (Int.tdiv (wrap64 (x4 + x5)) 2)) + 1)) x5) else (impl_rootOf.l1 k x0 x4 (wrap64 (Int.tdiv (wrap64 (x4 + x5)) 2)))) else (some (x4, ((wrap64 (x4 * x4)) == x0)))
end
def impl_rootOf.f (k : Nat) (a0 : Int) : Option (Int × Bool) := impl_rootOf.l0 k a0 0 1
set_option maxHeartbeats 8000000 in
set_option maxRecDepth 100000 in
theorem impl_rootOf.calls (k : Nat) (a0 : Int) (r1 : Int) (r2 : Bool) (w : World) (h : impl_rootOf.f k a0 = some (r1, r2)) :
  Calls Try.prog 71 #[.int .i64 a0] w fun e w' => e = .returned (.tuple #[.int .i64 r1, .bool r2]) ∧ Drawn0 w w' := by
 have H : (impl_rootOf.l0 k a0 0 1) = some (r1, r2) := h
 clear h; have H' := Aside0.mk H; clear H
 go_enter Try.func71, Try.ntmps71
 go_wp2
 go_loopg [5] k (fun kq v5 w' => ∃ (x5_1 : Int), v5 = .int .i64 x5_1 ∧ Aside0 (impl_rootOf.l0 kq a0 0 x5_1 = some (r1, r2)) ∧ Aside0 (kq ≤ k) ∧ Drawn0 w w')
 case atStart => exact ⟨(1), zu, H', ⟨Nat.le_refl _⟩, by repeat (first | exact Drawn0.refl _ | apply Drawn0.step)⟩
 case round =>
  clear H'
  obtain ⟨x5_1, rfl, HA, HK1, ⟨m1, rfl⟩⟩ := hrel
  cases gk with
  | zero => exact absurd HA.out (by simp [impl_rootOf.l0])
  | succ k1 =>
   have H := HA.out; clear HA; simp only [impl_rootOf.l0] at H
   by_cases c2 : (wrap64 (x5_1 * x5_1)) < a0
   ·rw [if_pos c2] at H
    have c2b0 : decide ((wrap64 (x5_1 * x5_1)) < a0) = true := decide_eq_true c2; clear c2; have H' := Aside0.mk H; clear H
    go_wp2
    go_roundg k1
    case measure => have := HK1.out; omega
    case rel => exact ⟨(wrap64 (x5_1 * 2)), zu, H', ⟨by have := HK1.out; omega⟩, by repeat (first | exact Drawn0.refl _ | apply Drawn0.step)⟩
   ·rw [if_neg c2] at H
    have c2b0 : decide ((wrap64 (x5_1 * x5_1)) < a0) = false := decide_eq_false c2; clear c2; have H' := Aside0.mk H; clear H
    go_wp2
    go_loopg [4, 5] k1 (fun kq v4 v5 w' => ∃ (x4_2 : Int) (x5_2 : Int), v4 = .int .i64 x4_2 ∧ v5 = .int .i64 x5_2 ∧ Aside0 (impl_rootOf.l1 kq a0 x4_2 x5_2 = some (r1, r2)) ∧ Aside0 (kq ≤ k1) ∧ Drawn0 w w')
    case atStart => exact ⟨(0), (x5_1), zu, zu, H', ⟨Nat.le_refl _⟩, by repeat (first | exact Drawn0.refl _ | apply Drawn0.step)⟩
    case round =>
     clear H'
     obtain ⟨x4_2, x5_2, rfl, rfl, HA, HK2, ⟨m2, rfl⟩⟩ := hrel
     cases gk with
     | zero => exact absurd HA.out (by simp [impl_rootOf.l1])
     | succ k2 =>
      have H := HA.out; clear HA; simp only [impl_rootOf.l1] at H
      by_cases c3 : x4_2 < x5_2
      ·rw [if_pos c3] at H
       have c3b0 : decide (x4_2 < x5_2) = true := decide_eq_true c3; clear c3
       by_cases c4 : (wrap64 ((wrap64 (Int.tdiv (wrap64 (x4_2 + x5_2)) 2)) * (wrap64 (Int.tdiv (wrap64 (x4_2 + x5_2)) 2)))) < a0
       ·rw [if_pos c4] at H
        have c4b0 : decide ((wrap64 ((wrap64 (Int.tdiv (wrap64 (x4_2 + x5_2)) 2)) * (wrap64 (Int.tdiv (wrap64 (x4_2 + x5_2)) 2)))) < a0) = true := decide_eq_true c4; clear c4; have H' := Aside0.mk H; clear H
        go_wp2
        go_roundg k2
        case measure => have := HK1.out; have := HK2.out; omega
        case rel => exact ⟨(wrap64 ((wrap64 (Int.tdiv (wrap64 (x4_2 + x5_2)) 2)) + 1)), (x5_2), zu, zu, H', ⟨by have := HK1.out; have := HK2.out; omega⟩, by repeat (first | exact Drawn0.refl _ | apply Drawn0.step)⟩
       ·rw [if_neg c4] at H
        have c4b0 : decide ((wrap64 ((wrap64 (Int.tdiv (wrap64 (x4_2 + x5_2)) 2)) * (wrap64 (Int.tdiv (wrap64 (x4_2 + x5_2)) 2)))) < a0) = false := decide_eq_false c4; clear c4; have H' := Aside0.mk H; clear H
        go_wp2
        go_roundg k2
        case measure => have := HK1.out; have := HK2.out; omega
        case rel => exact ⟨(x4_2), (wrap64 (Int.tdiv (wrap64 (x4_2 + x5_2)) 2)), zu, zu, H', ⟨by have := HK1.out; have := HK2.out; omega⟩, by repeat (first | exact Drawn0.refl _ | apply Drawn0.step)⟩
      ·rw [if_neg c3] at H
       have c3b0 : decide (x4_2 < x5_2) = false := decide_eq_false c3; clear c3; simp only [Option.some.injEq, Prod.mk.injEq] at H; obtain ⟨rfl, rfl⟩ := H
       go_wp2
       go_ret2
       exact ⟨by first | rfl | (simp; done) | (simp [*]; done), by repeat (first | exact Drawn0.refl _ | apply Drawn0.step)⟩


/-! ### impl_asNumber: function 89 -/
def impl_asNumber.f (a0 : Bool) : Option (Int) := if a0 = true then (some 1) else (some 0)
set_option maxHeartbeats 8000000 in
set_option maxRecDepth 100000 in
theorem impl_asNumber.calls (a0 : Bool) (r : Int) (w : World) (h : impl_asNumber.f a0 = some r) :
  Calls Try.prog 89 #[.bool a0] w fun e w' => e = .returned (.int .i64 r) ∧ Drawn0 w w' := by
 have H : (if a0 = true then (some 1) else (some 0)) = some r := h
 clear h
 by_cases c2 : a0 = true
 ·subst c2
  rw [if_pos rfl] at H
  obtain rfl := Option.some.inj H
  go_enter Try.func89, Try.ntmps89
  go_wp2
  go_ret
  exact ⟨by first | rfl | (simp; done) | (simp [*]; done), by repeat (first | exact Drawn0.refl _ | apply Drawn0.step)⟩
 ·replace c2 := Bool.eq_false_iff.mpr c2
  subst c2; rw [if_neg (show ¬ (false = true) by decide)] at H
  obtain rfl := Option.some.inj H
  go_enter Try.func89, Try.ntmps89
  go_wp2
  go_ret
  exact ⟨by first | rfl | (simp; done) | (simp [*]; done), by repeat (first | exact Drawn0.refl _ | apply Drawn0.step)⟩


/-! ### impl_square: function 90 -/
def impl_square.f (a0 : Int) (a1 : Int) : Option (Int) := some (wrap64 ((wrap64 (a0 * a0)) + (wrap64 (a1 * a1))))
set_option maxHeartbeats 8000000 in
set_option maxRecDepth 100000 in
theorem impl_square.calls (a0 : Int) (a1 : Int) (r : Int) (w : World) (h : impl_square.f a0 a1 = some r) :
  Calls Try.prog 90 #[.int .i64 a0, .int .i64 a1] w fun e w' => e = .returned (.int .i64 r) ∧ Drawn0 w w' := by
 have H : (some (wrap64 ((wrap64 (a0 * a0)) + (wrap64 (a1 * a1))))) = some r := h
 clear h
 obtain rfl := Option.some.inj H
 go_enter Try.func90, Try.ntmps90
 go_wp2
 go_ret
 exact ⟨by first | rfl | (simp; done) | (simp [*]; done), by repeat (first | exact Drawn0.refl _ | apply Drawn0.step)⟩


/-! ### impl_told_above: function 0 -/
/-- A cell that is written twice. -/
theorem cell_twice (w : World) (a : Addr) (u v : Value) (h : (w.cell? a).isSome = true) : ((w.setCell a u).setCell a v).cell? a = some v := by
 obtain ⟨x, hx⟩ := Option.isSome_iff_exists.1 h
 exact World.cell?_setCell_same _ a v (World.cell?_setCell_same w a u hx)
theorem cell_twiceD (w : World) (a : Addr) (u v : Value) (n : Nat) (h : (w.cell? a).isSome = true) : (((w.setCell a u).drewN n).setCell a v).cell? a = some v := by
 obtain ⟨x, hx⟩ := Option.isSome_iff_exists.1 h
 exact World.cell?_setCell_same _ a v (show ((w.setCell a u).drewN n).cell? a = some u from World.cell?_setCell_same w a u hx)



/-! ### impl_told: function 61 -/
attribute [local go_sem] cell_twice cell_twiceD
def impl_told.f (k : Nat) (a0_0 : Int) (a0_1 : Int) (a0_2 : Int) (a1 : Int) (a2 : Int) : Option (Int × Int × Int) := if a1 = 0 then (some (a1, 0, wrap64 (a0_1 + a0_2))) else (if a1 = 1 then ((impl_asNumber.f (decide (a0_1 > a0_2))).bind fun t212 => (some (a1, 0, t212))) else (if a1 = 2 then ((impl_CrossHeight.f k a0_0 a0_1 a0_2).bind fun bt213 => (some (a1, bt213.1, bt213.2.1))) else (if a1 = 3 then ((some (([a0_1, a0_2] : List Int) : List Int)).bind fun y216 => (if 0 ≤ a2 then (if a2 < (y216.length : Int) then ((impl_square.f a0_0 (rd y216 a2)).bind fun t220 => ((impl_rootOf.f k t220).bind fun bt221 => ((impl_asNumber.f bt221.2).bind fun t223 => (some (a1, a2, t223))))) else (none)) else (none))) else (if a1 = 4 then ((impl_CrossPlace.f k a0_0 a0_1 a0_2).bind fun bt224 => (some (a1, bt224.1, bt224.2.1))) else (if a1 = 5 then (some (a1, 0, wrap64 (a0_1 * a0_2))) else (some (a1, 0, 0)))))))
set_option maxHeartbeats 8000000 in
set_option maxRecDepth 100000 in
theorem impl_told.calls (k : Nat) (a0_0 : Int) (a0_1 : Int) (a0_2 : Int) (a1 : Int) (a2 : Int) (r1 : Int) (r2 : Int) (r3 : Int) (w : World) (h : impl_told.f k a0_0 a0_1 a0_2 a1 a2 = some (r1, r2, r3)) :
  Calls Try.prog 61 #[.agg #[.int .i64 a0_0, .int .i64 a0_1, .int .i64 a0_2], .int .i64 a1, .int .i64 a2] w fun e w' => e = .returned (.agg #[.int .i64 r1, .int .i64 r2, .int .i64 r3]) ∧ Below w.heap.size w w' := by
 have hu41 := Try.underlying41; have hu43 := Try.underlying43
 have HB := Aside0.mk (Below.refl w.heap.size w)
 have H : (if a1 = 0 then (some (a1, 0, wrap64 (a0_1 + a0_2))) else (if a1 = 1 then ((impl_asNumber.f (decide (a0_1 > a0_2))).bind fun t212 => (some (a1, 0, t212))) else (if a1 = 2 then ((impl_CrossHeight.f k a0_0 a0_1 a0_2).bind fun bt213 => (some (a1, bt213.1, bt213.2.1))) else (if a1 = 3 then ((some (([a0_1, a0_2] : List Int) : List Int)).bind fun y216 => (if 0 ≤ a2 then (if a2 < (y216.length : Int) then ((impl_square.f a0_0 (rd y216 a2)).bind fun t220 => ((impl_rootOf.f k t220).bind fun bt221 => ((impl_asNumber.f bt221.2).bind fun t223 => (some (a1, a2, t223))))) else (none)) else (none))) else (if a1 = 4 then ((impl_CrossPlace.f k a0_0 a0_1 a0_2).bind fun bt224 => (some (a1, bt224.1, bt224.2.1))) else (if a1 = 5 then (some (a1, 0, wrap64 (a0_1 * a0_2))) else (some (a1, 0, 0)))))))) = some (r1, r2, r3) := h
 clear h
 by_cases c4 : a1 = 0
 ·rw [if_pos c4] at H
  have c4b0 : (a1 == 0) = true := beq_iff_eq.mpr c4
  have c4b1 : (a1 != 0) = false := bne_eq_false_iff_eq.mpr c4
  clear c4; simp only [Option.some.injEq, Prod.mk.injEq] at H; obtain ⟨rfl, rfl, rfl⟩ := H
  go_enter Try.func61, Try.ntmps61
  go_wp2_with (first | ((with_reducible refine gate_dst (N := 3) rfl ?_); refine zE 3 #[.int .i64 a0_0, .int .i64 a0_1, .int .i64 a0_2] 41 ?_; intro gb209 hg w5 hbox hb; have BK209 := Aside0.mk (hbox); have GW209 := zg HB hg; have GE209 := GW209; replace HB := zh HB hb; clear hb hbox hg) | ((with_reducible refine gate_dst (N := 6) rfl ?_); refine zE 6 #[.int .i64 0, .int .i64 0, .int .i64 0] 43 ?_; intro gb210 hg w6 hbox hb; have BK210 := Aside0.mk (hbox); have GW210 := zg HB hg; have GE210 := GW210; have NB209_210 := zl BK209 hg; have NB210_209 := zr BK209 hg; replace BK209 := zb BK209 hb; replace HB := zh HB hb; clear hb hbox hg) | ((with_reducible refine gate_dst (N := 7) rfl ?_); refine zE 7 #[.int .i64 0, .int .i64 0, .int .i64 0] 43 ?_; intro gb211 hg w7 hbox hb; have BK211 := Aside0.mk (hbox); have GW211 := zg HB hg; have GE211 := GW211; have NB209_211 := zl BK209 hg; have NB211_209 := zr BK209 hg; have NB210_211 := zl BK210 hg; have NB211_210 := zr BK210 hg; replace BK209 := zb BK209 hb; replace BK210 := zb BK210 hb; replace HB := zh HB hb; clear hb hbox hg; have hnb8 := NB211_209.out; have hnc8 := NB209_211.out; have hnb9 := NB211_210.out; have hnc9 := NB210_211.out; obtain ⟨_, _, _, _, _, _⟩ := zc3 BK211; have hnb11 := NB209_210.out; have hnc11 := NB210_209.out; obtain ⟨_, _, _, _, _, _⟩ := zc3 BK209; obtain ⟨_, _, _, _, _, _⟩ := zc3 BK210))
  refine bodyPost_ret (results_cell_row rfl _ _ gb210 43 #[.int .i64 a1, .int .i64 0, .int .i64 (wrap64 (a0_1 + a0_2))] (0, 0) _ rfl (zw BK210) Try.underlying43 rfl (by kernel_rfl)) rfl ?_
  exact ⟨zt, zy HB⟩
 ·rw [if_neg c4] at H
  have c4b0 : (a1 == 0) = false := beq_eq_false_iff_ne.mpr c4
  have c4b1 : (a1 != 0) = true := bne_iff_ne.mpr c4
  by_cases c14 : a1 = 1
  ·rw [if_pos c14] at H
   have c14b0 : (a1 == 1) = true := beq_iff_eq.mpr c14
   have c14b1 : (a1 != 1) = false := bne_eq_false_iff_eq.mpr c14
   clear c14; replace H := Option.bind_eq_some_iff.mp H; obtain ⟨t212, A150, H⟩ := H
   replace H : (some (a1, 0, t212)) = some (r1, r2, r3) := H
   have A15 := Aside0.mk A150; clear A150; simp only [Option.some.injEq, Prod.mk.injEq] at H; obtain ⟨rfl, rfl, rfl⟩ := H
   go_enter Try.func61, Try.ntmps61
   go_wp2_with (first | ((with_reducible refine gate_dst (N := 3) rfl ?_); refine zE 3 #[.int .i64 a0_0, .int .i64 a0_1, .int .i64 a0_2] 41 ?_; intro gb209 hg w16 hbox hb; have BK209 := Aside0.mk (hbox); have GW209 := zg HB hg; have GE209 := GW209; replace HB := zh HB hb; clear hb hbox hg) | ((with_reducible refine gate_dst (N := 6) rfl ?_); refine zE 6 #[.int .i64 0, .int .i64 0, .int .i64 0] 43 ?_; intro gb210 hg w17 hbox hb; have BK210 := Aside0.mk (hbox); have GW210 := zg HB hg; have GE210 := GW210; have NB209_210 := zl BK209 hg; have NB210_209 := zr BK209 hg; replace BK209 := zb BK209 hb; replace HB := zh HB hb; clear hb hbox hg) | ((with_reducible refine gate_dst (N := 7) rfl ?_); refine zE 7 #[.int .i64 0, .int .i64 0, .int .i64 0] 43 ?_; intro gb211 hg w18 hbox hb; have BK211 := Aside0.mk (hbox); have GW211 := zg HB hg; have GE211 := GW211; have NB209_211 := zl BK209 hg; have NB211_209 := zr BK209 hg; have NB210_211 := zl BK210 hg; have NB211_210 := zr BK210 hg; replace BK209 := zb BK209 hb; replace BK210 := zb BK210 hb; replace HB := zh HB hb; clear hb hbox hg; have hnb19 := NB211_209.out; have hnc19 := NB209_211.out; have hnb20 := NB211_210.out; have hnc20 := NB210_211.out; obtain ⟨_, _, _, _, _, _⟩ := zc3 BK211; have hnb22 := NB209_210.out; have hnc22 := NB210_209.out; obtain ⟨_, _, _, _, _, _⟩ := zc3 BK209) | ((with_reducible refine gate_callee (f := 89) rfl ?_); refine zG (some 29) Try.func89 #[.bool (decide (a0_1 > a0_2))] ?_; (with_reducible refine (impl_asNumber.calls (decide (a0_1 > a0_2)) t212 _ A15.out).mono ?_); rintro e w' ⟨rfl, ⟨nd, rfl⟩⟩; refine ⟨_, rfl, ?_⟩; obtain ⟨_, _, _, _, _, _⟩ := zc3 BK210))
   refine bodyPost_ret (results_cell_row rfl _ _ gb210 43 #[.int .i64 a1, .int .i64 0, .int .i64 t212] (0, 0) _ rfl (zw BK210) Try.underlying43 rfl (by kernel_rfl)) rfl ?_
   exact ⟨zt, zy HB⟩
  ·rw [if_neg c14] at H
   have c14b0 : (a1 == 1) = false := beq_eq_false_iff_ne.mpr c14
   have c14b1 : (a1 != 1) = true := bne_iff_ne.mpr c14
   by_cases c25 : a1 = 2
   ·rw [if_pos c25] at H
    have c25b0 : (a1 == 2) = true := beq_iff_eq.mpr c25
    have c25b1 : (a1 != 2) = false := bne_eq_false_iff_eq.mpr c25
    clear c25; replace H := Option.bind_eq_some_iff.mp H; obtain ⟨⟨t213, t214, t215⟩, A260, H⟩ := H
    replace H : (some (a1, t213, t214)) = some (r1, r2, r3) := H
    have A26 := Aside0.mk A260; clear A260; simp only [Option.some.injEq, Prod.mk.injEq] at H; obtain ⟨rfl, rfl, rfl⟩ := H
    go_enter Try.func61, Try.ntmps61
    go_wp2_with (first | ((with_reducible refine gate_dst (N := 3) rfl ?_); refine zE 3 #[.int .i64 a0_0, .int .i64 a0_1, .int .i64 a0_2] 41 ?_; intro gb209 hg w27 hbox hb; have BK209 := Aside0.mk (hbox); have GW209 := zg HB hg; have GE209 := GW209; replace HB := zh HB hb; clear hb hbox hg) | ((with_reducible refine gate_dst (N := 6) rfl ?_); refine zE 6 #[.int .i64 0, .int .i64 0, .int .i64 0] 43 ?_; intro gb210 hg w28 hbox hb; have BK210 := Aside0.mk (hbox); have GW210 := zg HB hg; have GE210 := GW210; have NB209_210 := zl BK209 hg; have NB210_209 := zr BK209 hg; replace BK209 := zb BK209 hb; replace HB := zh HB hb; clear hb hbox hg) | ((with_reducible refine gate_dst (N := 7) rfl ?_); refine zE 7 #[.int .i64 0, .int .i64 0, .int .i64 0] 43 ?_; intro gb211 hg w29 hbox hb; have BK211 := Aside0.mk (hbox); have GW211 := zg HB hg; have GE211 := GW211; have NB209_211 := zl BK209 hg; have NB211_209 := zr BK209 hg; have NB210_211 := zl BK210 hg; have NB211_210 := zr BK210 hg; replace BK209 := zb BK209 hb; replace BK210 := zb BK210 hb; replace HB := zh HB hb; clear hb hbox hg; have hnb30 := NB211_209.out; have hnc30 := NB209_211.out; have hnb31 := NB211_210.out; have hnc31 := NB210_211.out; obtain ⟨_, _, _, _, _, _⟩ := zc3 BK211; have hnb33 := NB209_210.out; have hnc33 := NB210_209.out; obtain ⟨_, _, _, _, _, _⟩ := zc3 BK209) | ((with_reducible refine gate_callee (f := 22) rfl ?_); refine zG (some 35) Try.func22 #[.agg #[.int .i64 a0_0, .int .i64 a0_1, .int .i64 a0_2]] ?_; (with_reducible refine (impl_CrossHeight.calls k a0_0 a0_1 a0_2 t213 t214 t215 _ A26.out).mono ?_); rintro e w35 ⟨rfl, hb⟩; refine ⟨_, rfl, ?_⟩; have n2_ := Aside0.mk (blk_below (g := gb211) (o := .cells #[.int .i64 a1, .int .i64 0, .int .i64 0] 43 (0, 0)) (zw BK211) hb); replace BK209 := zb BK209 hb; replace BK210 := zb BK210 hb; replace HB := zh HB hb; clear BK211; have BK211 := n2_; clear n2_; clear hb; obtain ⟨_, _, _, _, _, _⟩ := zc3 BK211; obtain ⟨_, _, _, _, _, _⟩ := zc3 BK210))
    refine bodyPost_ret (results_cell_row rfl _ _ gb210 43 #[.int .i64 a1, .int .i64 t213, .int .i64 t214] (0, 0) _ rfl (zw BK210) Try.underlying43 rfl (by kernel_rfl)) rfl ?_
    exact ⟨zt, zy HB⟩
   ·rw [if_neg c25] at H
    have c25b0 : (a1 == 2) = false := beq_eq_false_iff_ne.mpr c25
    have c25b1 : (a1 != 2) = true := bne_iff_ne.mpr c25
    by_cases c38 : a1 = 3
    ·rw [if_pos c38] at H
     have c38b0 : (a1 == 3) = true := beq_iff_eq.mpr c38
     have c38b1 : (a1 != 3) = false := bne_eq_false_iff_eq.mpr c38
     clear c38
     obtain ⟨y216, hy216⟩ : ∃ y_ : List Int, y_ = (([a0_1, a0_2] : List Int)) := ⟨_, rfl⟩
     replace H : (if 0 ≤ a2 then (if a2 < (y216.length : Int) then ((impl_square.f a0_0 (rd y216 a2)).bind fun t220 => ((impl_rootOf.f k t220).bind fun bt221 => ((impl_asNumber.f bt221.2).bind fun t223 => (some (a1, a2, t223))))) else (none)) else (none)) = some (r1, r2, r3) := by first | (rw [hy216]; with_reducible exact H) | (have H2_ := (Option.bind_some _ _).symm.trans H; rw [hy216]; with_reducible exact H2_) | (have H2_ := (Option.bind_some _ _).symm.trans H; with_reducible exact H2_) | with_reducible exact H | (rw [hy216]; exact H) | exact H
     have Ny216 := Aside0.mk hy216; clear hy216
     by_cases c39 : 0 ≤ a2
     ·rw [if_pos c39] at H
      have c39b0 : decide (0 ≤ a2) = true := decide_eq_true c39; clear c39
      by_cases c40 : a2 < (y216.length : Int)
      ·rw [if_pos c40] at H
       have c40b0 : decide (a2 < (y216.length : Int)) = true := decide_eq_true c40; clear c40; replace H := Option.bind_eq_some_iff.mp H; obtain ⟨t220, A410, H⟩ := H
       replace H : ((impl_rootOf.f k t220).bind fun bt221 => ((impl_asNumber.f bt221.2).bind fun t223 => (some (a1, a2, t223)))) = some (r1, r2, r3) := H
       have A41 := Aside0.mk A410; clear A410; replace H := Option.bind_eq_some_iff.mp H; obtain ⟨⟨t221, t222⟩, A420, H⟩ := H
       replace H : ((impl_asNumber.f t222).bind fun t223 => (some (a1, a2, t223))) = some (r1, r2, r3) := H
       have A42 := Aside0.mk A420; clear A420; replace H := Option.bind_eq_some_iff.mp H; obtain ⟨t223, A430, H⟩ := H
       replace H : (some (a1, a2, t223)) = some (r1, r2, r3) := H
       have A43 := Aside0.mk A430; clear A430; simp only [Option.some.injEq, Prod.mk.injEq] at H; obtain ⟨rfl, rfl, rfl⟩ := H
       go_enter Try.func61, Try.ntmps61
       go_wp2_with (first | ((with_reducible refine gate_dst (N := 3) rfl ?_); refine zE 3 #[.int .i64 a0_0, .int .i64 a0_1, .int .i64 a0_2] 41 ?_; intro gb209 hg w44 hbox hb; have BK209 := Aside0.mk (hbox); have GW209 := zg HB hg; have GE209 := GW209; replace HB := zh HB hb; clear hb hbox hg) | ((with_reducible refine gate_dst (N := 6) rfl ?_); refine zE 6 #[.int .i64 0, .int .i64 0, .int .i64 0] 43 ?_; intro gb210 hg w45 hbox hb; have BK210 := Aside0.mk (hbox); have GW210 := zg HB hg; have GE210 := GW210; have NB209_210 := zl BK209 hg; have NB210_209 := zr BK209 hg; replace BK209 := zb BK209 hb; replace HB := zh HB hb; clear hb hbox hg) | ((with_reducible refine gate_dst (N := 7) rfl ?_); refine zE 7 #[.int .i64 0, .int .i64 0, .int .i64 0] 43 ?_; intro gb211 hg w46 hbox hb; have BK211 := Aside0.mk (hbox); have GW211 := zg HB hg; have GE211 := GW211; have NB209_211 := zl BK209 hg; have NB211_209 := zr BK209 hg; have NB210_211 := zl BK210 hg; have NB211_210 := zr BK210 hg; replace BK209 := zb BK209 hb; replace BK210 := zb BK210 hb; replace HB := zh HB hb; clear hb hbox hg; have hnb47 := NB211_209.out; have hnc47 := NB209_211.out; have hnb48 := NB211_210.out; have hnc48 := NB210_211.out; obtain ⟨_, _, _, _, _, _⟩ := zc3 BK211; have hnb50 := NB209_210.out; have hnc50 := NB210_209.out; obtain ⟨_, _, _, _, _, _⟩ := zc3 BK209) | ((with_reducible refine gate_dst (N := 47) rfl ?_); refine Kd.R_lit (Kd.int .i64) _ 3 ?hg (N := 47) ?hd (xs := ([a0_1, a0_2] : List Int)) (inner := [.int .i64 a0_1, .int .i64 a0_2]) (ok := fun _ => True) (okp := fun _ => True) ?hr ?hp (fun _ hk => hk) trivial (Below.refl _ _) (Nat.le_refl _) zO0_3 ?_; (case hd => rfl); (case hg => rfl); (case hr => first | (go_simp; done) | (go_simp; rfl)); (case hp => exact (Reps.one (show Kd.M (Kd.int .i64) _ _ _ a0_1 [.int .i64 a0_1] from rfl) (Reps.one (show Kd.M (Kd.int .i64) _ _ _ a0_2 [.int .i64 a0_2] from rfl) (Reps.none _ _)))); intro v217 w52 ho53 hb hg_ hnew_; clear hg_ hnew_; (first | rw [← Ny216.out] at ho53 | (simp only [Int.reduceToNat] at ho53; rw [← Ny216.out] at ho53)); have HO218 := Aside0.mk (Kd.R_lower ho53 (below_size (zy HB))); have n3_ := Aside0.mk (blk_below (g := gb211) (o := .cells #[.int .i64 a1, .int .i64 0, .int .i64 0] 43 (0, 0)) (zw BK211) hb); replace BK209 := zb BK209 hb; replace BK210 := zb BK210 hb; replace HB := zh HB hb; clear BK211; have BK211 := n3_; clear n3_; clear hb ho53; obtain ⟨Ao54, co54, eo54⟩ := Kd.R_slice HO218.out; subst eo54; have p219 : 0 ≤ (a2 : Int) := of_decide_eq_true zO0_1; have q219 : a2 < (y216.length : Int) := of_decide_eq_true zO0_1; obtain ⟨ad219, e219, hx219_0⟩ := Kd.at_int (Kd.R_reads' HO218.out).2.2 a2 p219 q219; cases e219; replace p219 := eq_true p219; replace q219 := eq_true q219; obtain ⟨_, _, _, _, _, _⟩ := zc3 BK209) | ((with_reducible refine gate_callee (f := 90) rfl ?_); refine zG (some 55) Try.func90 #[.int .i64 a0_0, .int .i64 (rd y216 a2)] ?_; (with_reducible refine (impl_square.calls a0_0 (rd y216 a2) t220 _ A41.out).mono ?_); rintro e w' ⟨rfl, ⟨nd, rfl⟩⟩; refine ⟨_, rfl, ?_⟩; (try (rw [drewN_self w52]; generalize hq_ : World.drewN w52 _ = w52; have n0_ : Aside0 (Kd.R (Kd.int .i64) 3 w52 w.heap.size (fun _ => True) (.slice (some ad219) y216.length co54) y216) := ⟨by rw [← hq_]; exact (zs HO218)⟩; have n1_ : Aside0 (w52.heap[gb209]? = some (.cells #[.int .i64 a0_0, .int .i64 a0_1, .int .i64 a0_2] 41 (0, 0))) := ⟨by rw [← hq_]; exact (zq BK209)⟩; have n2_ : Aside0 (w52.heap[gb210]? = some (.cells #[.int .i64 0, .int .i64 0, .int .i64 0] 43 (0, 0))) := ⟨by rw [← hq_]; exact (zq BK210)⟩; have n3_ : Aside0 (w52.heap[gb211]? = some (.cells #[.int .i64 a1, .int .i64 0, .int .i64 0] 43 (0, 0))) := ⟨by rw [← hq_]; exact (zq BK211)⟩; have n4_ : Aside0 (Below w.heap.size w w52) := ⟨by rw [← hq_]; exact (zy HB)⟩; clear HO218 BK209 BK210 BK211 HB hq_; have HO218 := n0_; have BK209 := n1_; have BK210 := n2_; have BK211 := n3_; have HB := n4_; clear n0_ n1_ n2_ n3_ n4_))) | ((with_reducible refine gate_callee (f := 71) rfl ?_); refine zG (some 56) Try.func71 #[.int .i64 t220] ?_; (with_reducible refine (impl_rootOf.calls k t220 t221 t222 _ A42.out).mono ?_); rintro e w' ⟨rfl, ⟨nd, rfl⟩⟩; refine ⟨_, rfl, ?_⟩; (try (rw [drewN_self w52]; generalize hq_ : World.drewN w52 _ = w52; have n0_ : Aside0 (Kd.R (Kd.int .i64) 3 w52 w.heap.size (fun _ => True) (.slice (some ad219) y216.length co54) y216) := ⟨by rw [← hq_]; exact (zs HO218)⟩; have n1_ : Aside0 (w52.heap[gb209]? = some (.cells #[.int .i64 a0_0, .int .i64 a0_1, .int .i64 a0_2] 41 (0, 0))) := ⟨by rw [← hq_]; exact (zq BK209)⟩; have n2_ : Aside0 (w52.heap[gb210]? = some (.cells #[.int .i64 0, .int .i64 0, .int .i64 0] 43 (0, 0))) := ⟨by rw [← hq_]; exact (zq BK210)⟩; have n3_ : Aside0 (w52.heap[gb211]? = some (.cells #[.int .i64 a1, .int .i64 0, .int .i64 0] 43 (0, 0))) := ⟨by rw [← hq_]; exact (zq BK211)⟩; have n4_ : Aside0 (Below w.heap.size w w52) := ⟨by rw [← hq_]; exact (zy HB)⟩; clear HO218 BK209 BK210 BK211 HB hq_; have HO218 := n0_; have BK209 := n1_; have BK210 := n2_; have BK211 := n3_; have HB := n4_; clear n0_ n1_ n2_ n3_ n4_))) | ((with_reducible refine gate_callee (f := 89) rfl ?_); refine zG (some 61) Try.func89 #[.bool t222] ?_; (with_reducible refine (impl_asNumber.calls t222 t223 _ A43.out).mono ?_); rintro e w' ⟨rfl, ⟨nd, rfl⟩⟩; refine ⟨_, rfl, ?_⟩; (try (rw [drewN_self w52]; generalize hq_ : World.drewN w52 _ = w52; have n0_ : Aside0 (Kd.R (Kd.int .i64) 3 w52 w.heap.size (fun _ => True) (.slice (some ad219) y216.length co54) y216) := ⟨by rw [← hq_]; exact (zs HO218)⟩; have n1_ : Aside0 (w52.heap[gb209]? = some (.cells #[.int .i64 a0_0, .int .i64 a0_1, .int .i64 a0_2] 41 (0, 0))) := ⟨by rw [← hq_]; exact (zq BK209)⟩; have n2_ : Aside0 (w52.heap[gb210]? = some (.cells #[.int .i64 0, .int .i64 0, .int .i64 0] 43 (0, 0))) := ⟨by rw [← hq_]; exact (zq BK210)⟩; have n3_ : Aside0 (w52.heap[gb211]? = some (.cells #[.int .i64 a1, .int .i64 0, .int .i64 0] 43 (0, 0))) := ⟨by rw [← hq_]; exact (zq BK211)⟩; have n4_ : Aside0 (Below w.heap.size w w52) := ⟨by rw [← hq_]; exact (zy HB)⟩; clear HO218 BK209 BK210 BK211 HB hq_; have HO218 := n0_; have BK209 := n1_; have BK210 := n2_; have BK211 := n3_; have HB := n4_; clear n0_ n1_ n2_ n3_ n4_)); obtain ⟨_, _, _, _, _, _⟩ := zc3 BK211; obtain ⟨_, _, _, _, _, _⟩ := zc3 BK210))
       refine bodyPost_ret (results_cell_row rfl _ _ gb210 43 #[.int .i64 a1, .int .i64 a2, .int .i64 t223] (0, 0) _ rfl (zw BK210) Try.underlying43 rfl (by kernel_rfl)) rfl ?_
       exact ⟨zt, zy HB⟩
      ·rw [if_neg c40] at H
       exact absurd H zO0_3
     ·rw [if_neg c39] at H
      exact absurd H zO0_3
    ·rw [if_neg c38] at H
     have c38b0 : (a1 == 3) = false := beq_eq_false_iff_ne.mpr c38
     have c38b1 : (a1 != 3) = true := bne_iff_ne.mpr c38
     by_cases c58 : a1 = 4
     ·rw [if_pos c58] at H
      have c58b0 : (a1 == 4) = true := beq_iff_eq.mpr c58
      have c58b1 : (a1 != 4) = false := bne_eq_false_iff_eq.mpr c58
      clear c58; replace H := Option.bind_eq_some_iff.mp H; obtain ⟨⟨t224, t225, t226⟩, A590, H⟩ := H
      replace H : (some (a1, t224, t225)) = some (r1, r2, r3) := H
      have A59 := Aside0.mk A590; clear A590; simp only [Option.some.injEq, Prod.mk.injEq] at H; obtain ⟨rfl, rfl, rfl⟩ := H
      go_enter Try.func61, Try.ntmps61
      go_wp2_with (first | ((with_reducible refine gate_dst (N := 3) rfl ?_); refine zE 3 #[.int .i64 a0_0, .int .i64 a0_1, .int .i64 a0_2] 41 ?_; intro gb209 hg w60 hbox hb; have BK209 := Aside0.mk (hbox); have GW209 := zg HB hg; have GE209 := GW209; replace HB := zh HB hb; clear hb hbox hg) | ((with_reducible refine gate_dst (N := 6) rfl ?_); refine zE 6 #[.int .i64 0, .int .i64 0, .int .i64 0] 43 ?_; intro gb210 hg w61 hbox hb; have BK210 := Aside0.mk (hbox); have GW210 := zg HB hg; have GE210 := GW210; have NB209_210 := zl BK209 hg; have NB210_209 := zr BK209 hg; replace BK209 := zb BK209 hb; replace HB := zh HB hb; clear hb hbox hg) | ((with_reducible refine gate_dst (N := 7) rfl ?_); refine zE 7 #[.int .i64 0, .int .i64 0, .int .i64 0] 43 ?_; intro gb211 hg w62 hbox hb; have BK211 := Aside0.mk (hbox); have GW211 := zg HB hg; have GE211 := GW211; have NB209_211 := zl BK209 hg; have NB211_209 := zr BK209 hg; have NB210_211 := zl BK210 hg; have NB211_210 := zr BK210 hg; replace BK209 := zb BK209 hb; replace BK210 := zb BK210 hb; replace HB := zh HB hb; clear hb hbox hg; have hnb63 := NB211_209.out; have hnc63 := NB209_211.out; have hnb64 := NB211_210.out; have hnc64 := NB210_211.out; obtain ⟨_, _, _, _, _, _⟩ := zc3 BK211; have hnb66 := NB209_210.out; have hnc66 := NB210_209.out; obtain ⟨_, _, _, _, _, _⟩ := zc3 BK209) | ((with_reducible refine gate_callee (f := 24) rfl ?_); refine zG (some 68) Try.func24 #[.agg #[.int .i64 a0_0, .int .i64 a0_1, .int .i64 a0_2]] ?_; (with_reducible refine (impl_CrossPlace.calls k a0_0 a0_1 a0_2 t224 t225 t226 _ A59.out).mono ?_); rintro e w68 ⟨rfl, hb⟩; refine ⟨_, rfl, ?_⟩; have n2_ := Aside0.mk (blk_below (g := gb211) (o := .cells #[.int .i64 a1, .int .i64 0, .int .i64 0] 43 (0, 0)) (zw BK211) hb); replace BK209 := zb BK209 hb; replace BK210 := zb BK210 hb; replace HB := zh HB hb; clear BK211; have BK211 := n2_; clear n2_; clear hb; obtain ⟨_, _, _, _, _, _⟩ := zc3 BK211; obtain ⟨_, _, _, _, _, _⟩ := zc3 BK210))
      refine bodyPost_ret (results_cell_row rfl _ _ gb210 43 #[.int .i64 a1, .int .i64 t224, .int .i64 t225] (0, 0) _ rfl (zw BK210) Try.underlying43 rfl (by kernel_rfl)) rfl ?_
      exact ⟨zt, zy HB⟩
     ·rw [if_neg c58] at H
      have c58b0 : (a1 == 4) = false := beq_eq_false_iff_ne.mpr c58
      have c58b1 : (a1 != 4) = true := bne_iff_ne.mpr c58
      by_cases c71 : a1 = 5
      ·rw [if_pos c71] at H
       have c71b0 : (a1 == 5) = true := beq_iff_eq.mpr c71
       have c71b1 : (a1 != 5) = false := bne_eq_false_iff_eq.mpr c71
       clear c71; simp only [Option.some.injEq, Prod.mk.injEq] at H; obtain ⟨rfl, rfl, rfl⟩ := H
       go_enter Try.func61, Try.ntmps61
       go_wp2_with (first | ((with_reducible refine gate_dst (N := 3) rfl ?_); refine zE 3 #[.int .i64 a0_0, .int .i64 a0_1, .int .i64 a0_2] 41 ?_; intro gb209 hg w72 hbox hb; have BK209 := Aside0.mk (hbox); have GW209 := zg HB hg; have GE209 := GW209; replace HB := zh HB hb; clear hb hbox hg) | ((with_reducible refine gate_dst (N := 6) rfl ?_); refine zE 6 #[.int .i64 0, .int .i64 0, .int .i64 0] 43 ?_; intro gb210 hg w73 hbox hb; have BK210 := Aside0.mk (hbox); have GW210 := zg HB hg; have GE210 := GW210; have NB209_210 := zl BK209 hg; have NB210_209 := zr BK209 hg; replace BK209 := zb BK209 hb; replace HB := zh HB hb; clear hb hbox hg) | ((with_reducible refine gate_dst (N := 7) rfl ?_); refine zE 7 #[.int .i64 0, .int .i64 0, .int .i64 0] 43 ?_; intro gb211 hg w74 hbox hb; have BK211 := Aside0.mk (hbox); have GW211 := zg HB hg; have GE211 := GW211; have NB209_211 := zl BK209 hg; have NB211_209 := zr BK209 hg; have NB210_211 := zl BK210 hg; have NB211_210 := zr BK210 hg; replace BK209 := zb BK209 hb; replace BK210 := zb BK210 hb; replace HB := zh HB hb; clear hb hbox hg; have hnb75 := NB211_209.out; have hnc75 := NB209_211.out; have hnb76 := NB211_210.out; have hnc76 := NB210_211.out; obtain ⟨_, _, _, _, _, _⟩ := zc3 BK211; have hnb78 := NB209_210.out; have hnc78 := NB210_209.out; obtain ⟨_, _, _, _, _, _⟩ := zc3 BK209; obtain ⟨_, _, _, _, _, _⟩ := zc3 BK210))
       refine bodyPost_ret (results_cell_row rfl _ _ gb210 43 #[.int .i64 a1, .int .i64 0, .int .i64 (wrap64 (a0_1 * a0_2))] (0, 0) _ rfl (zw BK210) Try.underlying43 rfl (by kernel_rfl)) rfl ?_
       exact ⟨zt, zy HB⟩
      ·rw [if_neg c71] at H
       have c71b0 : (a1 == 5) = false := beq_eq_false_iff_ne.mpr c71
       have c71b1 : (a1 != 5) = true := bne_iff_ne.mpr c71
       simp only [Option.some.injEq, Prod.mk.injEq] at H; obtain ⟨rfl, rfl, rfl⟩ := H
       go_enter Try.func61, Try.ntmps61
       go_wp2_with (first | ((with_reducible refine gate_dst (N := 3) rfl ?_); refine zE 3 #[.int .i64 a0_0, .int .i64 a0_1, .int .i64 a0_2] 41 ?_; intro gb209 hg w81 hbox hb; have BK209 := Aside0.mk (hbox); have GW209 := zg HB hg; have GE209 := GW209; replace HB := zh HB hb; clear hb hbox hg) | ((with_reducible refine gate_dst (N := 6) rfl ?_); refine zE 6 #[.int .i64 0, .int .i64 0, .int .i64 0] 43 ?_; intro gb210 hg w82 hbox hb; have BK210 := Aside0.mk (hbox); have GW210 := zg HB hg; have GE210 := GW210; have NB209_210 := zl BK209 hg; have NB210_209 := zr BK209 hg; replace BK209 := zb BK209 hb; replace HB := zh HB hb; clear hb hbox hg) | ((with_reducible refine gate_dst (N := 7) rfl ?_); refine zE 7 #[.int .i64 0, .int .i64 0, .int .i64 0] 43 ?_; intro gb211 hg w83 hbox hb; have BK211 := Aside0.mk (hbox); have GW211 := zg HB hg; have GE211 := GW211; have NB209_211 := zl BK209 hg; have NB211_209 := zr BK209 hg; have NB210_211 := zl BK210 hg; have NB211_210 := zr BK210 hg; replace BK209 := zb BK209 hb; replace BK210 := zb BK210 hb; replace HB := zh HB hb; clear hb hbox hg; have hnb84 := NB211_209.out; have hnc84 := NB209_211.out; have hnb85 := NB211_210.out; have hnc85 := NB210_211.out; obtain ⟨_, _, _, _, _, _⟩ := zc3 BK211; have hnb87 := NB210_209.out; have hnc87 := NB209_210.out; obtain ⟨_, _, _, _, _, _⟩ := zc3 BK210))
       refine bodyPost_ret (results_cell_row rfl _ _ gb210 43 #[.int .i64 a1, .int .i64 0, .int .i64 0] (0, 0) _ rfl (zw BK210) Try.underlying43 rfl (by kernel_rfl)) rfl ?_
       exact ⟨zt, zy HB⟩

end Go.Proofs.Ythioojdannlhiaa.P
