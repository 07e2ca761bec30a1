/- The law FnLaddersHidden is proved: a call of it returns true and leaves its arguments as they were; and what this needs. Every input that the given rows speak of; nothing else is asked. -/
import Derived.Test.YtopoopkobfdjjaaProg
import Derived.Below
import Derived.Deep.Draws
import Derived.Deep.AppendLies
import Derived.Maps.AppendAt
import Derived.OwnWalk
import Derived.Laws.BytesArg
import Derived.Laws.MakeOwn
import Derived.Laws.OwnMore
import Derived.Deep.OwnRows
import Derived.Tactics
import Derived.Lib.ConvBytes
import Derived.Laws.Slices
import Derived.WalkKit
import Derived.KernelRfl
import Derived.RowKit3
import Derived.Deep.LoopGhost
import Derived.Deep.QuietTactic
import Derived.BigQuiet
import Derived.WideLaws
import Derived.Deep.DeepCutAuto
import Derived.Deep.CutBlock
import Derived.Deep.RegionHeld3
import Derived.Laws.Rows
import Derived.Lib.AppendStr
import Derived.ArgAppend
import Derived.Laws.IdiomCopy
import Derived.OrdersHeld
import Derived.Laws.BitsLemmas
import Derived.RowKit
import Derived.Shelf.Abstract
import Derived.WalkSpells
import Derived.Lib.SliceRun
import Derived.Test.YtopoopkobfdjjaaOW
namespace Go.Proofs.Ytopoopkobfdjjaa.P
open Go.RowKit Go.Proofs.YtopoopkobfdjjaaW.PrintWords Go.Proofs.YtopoopkobfdjjaaW.PrintLast Go.Proofs.YtopoopkobfdjjaaW.PrintMore
set_option linter.unusedVariables false
theorem zO0_0 {p : Prop} (h : p := by first | (with_reducible assumption) | assumption) : p := h
theorem zO0_1 {p : Prop} (h : p := by assumption) : p := h
theorem zO0_2 {p : Prop} (h : p := by simp) : p := h
end Go.Proofs.Ytopoopkobfdjjaa.P
namespace Go.Proofs.Ytopoopkobfdjjaa.P
open Go.RowKit Go.Proofs.YtopoopkobfdjjaaW.PrintWords Go.Proofs.YtopoopkobfdjjaaW.PrintLast Go.Proofs.YtopoopkobfdjjaaW.PrintMore
attribute [local go_sem] max2_int min2_int max_two min_two max_three min_three max_four min_four   -- for this text's walks alone
set_option linter.unusedVariables false
set_option linter.unusedSimpArgs false



def errW : Option Int → Value
 | none => .nilIface
 | some c => .iface 0 (.int .i64 c)
theorem errW_none : errW none = .nilIface := rfl
theorem errW_some (c : Int) : errW (some c) = .iface 0 (.int .i64 c) := rfl

theorem info3 : (Try.prog.info? 3).map (fun i => (i.zero, i.size, i.bytes)) = some (some (.int .i64 0), 1, 8) := by kernel_rfl
theorem info25 : (Try.prog.info? 25).map (fun i => (i.zero, i.size, i.bytes)) = some (some (.agg #[(.int .i64 0), (.int .i64 0), (.int .i64 0)]), 3, 24) := by kernel_rfl
theorem info28 : (Try.prog.info? 28).map (fun i => (i.zero, i.size, i.bytes)) = some (some (.slice none 0 0), 1, 24) := by kernel_rfl
theorem info39 : (Try.prog.info? 39).map (fun i => (i.zero, i.size, i.bytes)) = some (some (.agg #[(.int .i64 0), (.int .i64 0), (.int .i64 0)]), 3, 24) := by kernel_rfl
-- the values' own types
/-! #### struct type 39 -/
structure S39 where
 f0 : Int
 f1 : Int
 f2 : Int
def z39 : S39 := ⟨(0 : Int), (0 : Int), (0 : Int)⟩
def k39 : Kd S39 := Kd.iso (Kd.pair (Kd.int .i64) (Kd.pair (Kd.int .i64) (Kd.int .i64))) (fun x : S39 => (x.f0, x.f1, x.f2))
theorem k39_heap : Kd.Heap k39 := Kd.heap_iso _ (Kd.heap_pair (Kd.heap_int .i64) (Kd.heap_pair (Kd.heap_int .i64) (Kd.heap_int .i64)))
theorem k39_open {w : World} {x : S39} {cs : List Value} (h : k39.K w x cs) : cs = [.int .i64 x.f0, .int .i64 x.f1, .int .i64 x.f2] := by
 obtain ⟨_, _, rfl, rfl, ⟨_, _, rfl, rfl, rfl⟩⟩ := h
 exact rfl
theorem k39_openM {w : World} {base : Nat} {ok : Nat → Prop} {x : S39} {cs : List Value} (h : k39.M w base ok x cs) : cs = [.int .i64 x.f0, .int .i64 x.f1, .int .i64 x.f2] := by
 obtain ⟨_, _, rfl, rfl, ⟨_, _, rfl, rfl, rfl⟩⟩ := h
 exact rfl
theorem k39_mk (w : World) (x : S39)  : k39.K w x [.int .i64 x.f0, .int .i64 x.f1, .int .i64 x.f2] := ⟨[.int .i64 x.f0], [.int .i64 x.f1, .int .i64 x.f2], rfl, rfl, ⟨[.int .i64 x.f1], [.int .i64 x.f2], rfl, rfl, rfl⟩⟩
theorem k39_mkM (w : World) (base : Nat) (ok : Nat → Prop) (x : S39)  : k39.M w base ok x [.int .i64 x.f0, .int .i64 x.f1, .int .i64 x.f2] := ⟨[.int .i64 x.f0], [.int .i64 x.f1, .int .i64 x.f2], rfl, rfl, ⟨[.int .i64 x.f1], [.int .i64 x.f2], rfl, rfl, rfl⟩⟩
theorem k39_mkF (W : World) (ok : Nat → Prop) (x : S39) : Kd.FK k39 W ok x [.int .i64 x.f0, .int .i64 x.f1, .int .i64 x.f2] := fun W2 _ => k39_mk W2 x
def rd_T39 (xs : List S39) (i : Int) : S39 := xs.getD i.toNat z39
theorem at_T39 {w : World} {A : Option Addr} {n : Nat} {xs : List S39} (h : Kd.C k39 w A n xs) (i : Int) (h0 : 0 ≤ i) (h1 : i < n) : ∃ ad , A = some ad ∧ w.cell? (ad.add (i.toNat * 3)) = some (.int .i64 (rd_T39 xs i).f0) ∧ w.cell? ⟨(ad.add (i.toNat * 3)).block, (ad.add (i.toNat * 3)).off + 1, none⟩ = some (.int .i64 (rd_T39 xs i).f1) ∧ w.cell? ⟨(ad.add (i.toNat * 3)).block, (ad.add (i.toNat * 3)).off + 2, none⟩ = some (.int .i64 (rd_T39 xs i).f2) := by
 obtain ⟨ad, c, e, _, hK, hc0⟩ := Kd.C_get h z39 i h0 h1
 have hc : ∀ j u, c[j]? = some u → w.cell? (ad.add (i.toNat * 3 + j)) = some u := hc0
 obtain rfl := k39_open hK
 exact ⟨ad, e, hc 0 _ rfl, by rw [← add_field _ _ 1 (by omega)]; exact hc 1 _ rfl, by rw [← add_field _ _ 2 (by omega)]; exact hc 2 _ rfl⟩

/-! #### struct type 25 -/
structure S25 where
 f0 : Int
 f1 : Int
 f2 : Int
def z25 : S25 := ⟨(0 : Int), (0 : Int), (0 : Int)⟩
def k25 : Kd S25 := Kd.iso (Kd.pair (Kd.int .i64) (Kd.pair (Kd.int .i64) (Kd.int .i64))) (fun x : S25 => (x.f0, x.f1, x.f2))
theorem k25_heap : Kd.Heap k25 := Kd.heap_iso _ (Kd.heap_pair (Kd.heap_int .i64) (Kd.heap_pair (Kd.heap_int .i64) (Kd.heap_int .i64)))
theorem k25_open {w : World} {x : S25} {cs : List Value} (h : k25.K w x cs) : cs = [.int .i64 x.f0, .int .i64 x.f1, .int .i64 x.f2] := by
 obtain ⟨_, _, rfl, rfl, ⟨_, _, rfl, rfl, rfl⟩⟩ := h
 exact rfl
theorem k25_openM {w : World} {base : Nat} {ok : Nat → Prop} {x : S25} {cs : List Value} (h : k25.M w base ok x cs) : cs = [.int .i64 x.f0, .int .i64 x.f1, .int .i64 x.f2] := by
 obtain ⟨_, _, rfl, rfl, ⟨_, _, rfl, rfl, rfl⟩⟩ := h
 exact rfl
theorem k25_mk (w : World) (x : S25)  : k25.K w x [.int .i64 x.f0, .int .i64 x.f1, .int .i64 x.f2] := ⟨[.int .i64 x.f0], [.int .i64 x.f1, .int .i64 x.f2], rfl, rfl, ⟨[.int .i64 x.f1], [.int .i64 x.f2], rfl, rfl, rfl⟩⟩
theorem k25_mkM (w : World) (base : Nat) (ok : Nat → Prop) (x : S25)  : k25.M w base ok x [.int .i64 x.f0, .int .i64 x.f1, .int .i64 x.f2] := ⟨[.int .i64 x.f0], [.int .i64 x.f1, .int .i64 x.f2], rfl, rfl, ⟨[.int .i64 x.f1], [.int .i64 x.f2], rfl, rfl, rfl⟩⟩
theorem k25_mkF (W : World) (ok : Nat → Prop) (x : S25) : Kd.FK k25 W ok x [.int .i64 x.f0, .int .i64 x.f1, .int .i64 x.f2] := fun W2 _ => k25_mk W2 x
def rd_T25 (xs : List S25) (i : Int) : S25 := xs.getD i.toNat z25
theorem at_T25 {w : World} {A : Option Addr} {n : Nat} {xs : List S25} (h : Kd.C k25 w A n xs) (i : Int) (h0 : 0 ≤ i) (h1 : i < n) : ∃ ad , A = some ad ∧ w.cell? (ad.add (i.toNat * 3)) = some (.int .i64 (rd_T25 xs i).f0) ∧ w.cell? ⟨(ad.add (i.toNat * 3)).block, (ad.add (i.toNat * 3)).off + 1, none⟩ = some (.int .i64 (rd_T25 xs i).f1) ∧ w.cell? ⟨(ad.add (i.toNat * 3)).block, (ad.add (i.toNat * 3)).off + 2, none⟩ = some (.int .i64 (rd_T25 xs i).f2) := by
 obtain ⟨ad, c, e, _, hK, hc0⟩ := Kd.C_get h z25 i h0 h1
 have hc : ∀ j u, c[j]? = some u → w.cell? (ad.add (i.toNat * 3 + j)) = some u := hc0
 obtain rfl := k25_open hK
 exact ⟨ad, e, hc 0 _ rfl, by rw [← add_field _ _ 1 (by omega)]; exact hc 1 _ rfl, by rw [← add_field _ _ 2 (by omega)]; exact hc 2 _ rfl⟩

def rd_L4 (xs : List (List S39)) (i : Int) : (List S39) := xs.getD i.toNat ([] : List S39)
theorem at_L4 {w : World} {A : Option Addr} {n : Nat} {xs : List (List S39)} (h : Kd.C (Kd.slice 39 k39) w A n xs) (i : Int) (h0 : 0 ≤ i) (h1 : i < n) : ∃ ad A0 c0, A = some ad ∧ w.cell? (ad.add i.toNat) = some (.slice A0 (rd_L4 xs i).length c0) ∧ (rd_L4 xs i).length ≤ c0 ∧ k39.C w A0 (rd_L4 xs i).length (rd_L4 xs i) := by
 obtain ⟨ad, c, e, _, hK, hc0⟩ := Kd.C_get h ([] : List S39) i h0 h1
 have hc : ∀ j u, c[j]? = some u → w.cell? (ad.add (i.toNat * 1 + j)) = some u := hc0
 obtain ⟨A0, c0, rfl, l0, g0⟩ := hK
 exact ⟨ad, A0, c0, e, by have hq := hc 0 _ rfl; rwa [Nat.mul_one, Nat.add_zero] at hq, l0, g0⟩


theorem eqA39 (d : Nat) (w : World) (x0 y0 : Int) (x1 y1 : Int) (x2 y2 : Int) :
  (Op.equalIn (d + 2) 39 (.agg #[.int .i64 x0, .int .i64 x1, .int .i64 x2]) (.agg #[.int .i64 y0, .int .i64 y1, .int .i64 y2])).run Try.prog w = .ok (x0 == y0 && (x1 == y1 && (x2 == y2))) w := by
 refine eqA_of Try.underlying39 (by kernel_rfl) ?_
 refine eqf_cons (by rfl) (by go_simp; rfl) (by go_simp; rfl) (by go_simp) ?_
 refine eqf_cons (by rfl) (by go_simp; rfl) (by go_simp; rfl) (by go_simp) ?_
 exact eqf_last (by rfl) (by go_simp; rfl) (by go_simp; rfl) (by go_simp)

/-! ### zwords: function 0 -/
theorem zb {w w1 w2 : World} {g : Nat} {o : Obj} (h : Aside0 (w.heap[g]? = some o)) (hb : Below w1.heap.size w1 w2) (hp : w.heap[g]? = some o → w1.heap[g]? = some o := by intro h_; (with_reducible repeat (first | refine blk_drewN ?_ _ | refine blk_drew ?_ | refine blk_alloc ?_ _ | refine blk_far ?_ (Aside0.out zO0_1) _)); exact h_) : Aside0 (w2.heap[g]? = some o) := ⟨blk_below (hp h.out) hb⟩
theorem zk {w w1 : World} {g : Nat} {o : Obj} (h : Aside0 (w.heap[g]? = some o)) (hp : w.heap[g]? = some o → w1.heap[g]? = some o := by intro h_; (with_reducible repeat (first | refine blk_drewN ?_ _ | refine blk_drew ?_ | refine blk_alloc ?_ _ | refine blk_far ?_ (Aside0.out zO0_1) _)); exact h_) : Aside0 (w1.heap[g]? = some o) := ⟨hp h.out⟩
theorem zq {w w1 : World} {g : Nat} {o : Obj} (h : Aside0 (w.heap[g]? = some o)) (hp : w.heap[g]? = some o → w1.heap[g]? = some o := by intro h_; (with_reducible repeat (first | refine blk_drewN ?_ _ | refine blk_drew ?_ | refine blk_alloc ?_ _ | refine blk_far ?_ (Aside0.out zO0_1) _)); exact h_) : w1.heap[g]? = some o := hp h.out
theorem zl {w w1 : World} {g g2 : Nat} {o : Obj} (h : Aside0 (w.heap[g]? = some o)) (hg : g2 = w1.heap.size) (hp : w.heap[g]? = some o → w1.heap[g]? = some o := by intro h_; (with_reducible repeat (first | refine blk_drewN ?_ _ | refine blk_drew ?_ | refine blk_alloc ?_ _ | refine blk_far ?_ (Aside0.out zO0_1) _)); exact h_) : Aside0 (g ≠ g2) := ⟨by rw [hg]; exact Nat.ne_of_lt (blk_lt (hp h.out))⟩
theorem zr {w w1 : World} {g g2 : Nat} {o : Obj} (h : Aside0 (w.heap[g]? = some o)) (hg : g2 = w1.heap.size) (hp : w.heap[g]? = some o → w1.heap[g]? = some o := by intro h_; (with_reducible repeat (first | refine blk_drewN ?_ _ | refine blk_drew ?_ | refine blk_alloc ?_ _ | refine blk_far ?_ (Aside0.out zO0_1) _)); exact h_) : Aside0 (g2 ≠ g) := ⟨by rw [hg]; exact Nat.ne_of_gt (blk_lt (hp h.out))⟩
theorem zh {b w w1 w2 : World} (h : Aside0 (Below b.heap.size b w)) (hb : Below w1.heap.size w1 w2) (hp : Below b.heap.size b w → Below b.heap.size b w1 := by intro h_; repeat (first | (with_reducible first | exact h_ | apply below_alloc | apply pw_below_drewN | apply below_drew1 | refine below_set ?_ (Aside0.out zO0_1)) | exact h_)) : Aside0 (Below b.heap.size b w2) := ⟨below_step (hp h.out) hb⟩
theorem zi {b w w1 : World} (h : Aside0 (Below b.heap.size b w)) (hp : Below b.heap.size b w → Below b.heap.size b w1 := by intro h_; repeat (first | (with_reducible first | exact h_ | apply below_alloc | apply pw_below_drewN | apply below_drew1 | refine below_set ?_ (Aside0.out zO0_1)) | exact h_)) : Aside0 (Below b.heap.size b w1) := ⟨hp h.out⟩
theorem zg {b w w1 : World} {g : Nat} (h : Aside0 (Below b.heap.size b w)) (hg : g = w1.heap.size) (hp : Below b.heap.size b w → Below b.heap.size b w1 := by intro h_; repeat (first | (with_reducible first | exact h_ | apply below_alloc | apply pw_below_drewN | apply below_drew1 | refine below_set ?_ (Aside0.out zO0_1)) | exact h_)) : Aside0 (b.heap.size ≤ g) := ⟨by rw [hg]; exact below_size (hp h.out)⟩
theorem zo {α : Type} {d : Kd α} {e : Nat} {w w1 w2 : World} {b : Nat} {ok : Nat → Prop} {v : Value} {xs : List α} (h : Aside0 (d.R e w b ok v xs)) (hb : Below w1.heap.size w1 w2) (hp : d.R e w b ok v xs → d.R e w1 b ok v xs := by intro h_; (with_reducible repeat (first | apply Kd.R_alloc | apply Kd.R_drewN | apply Kd.R_drew)); exact h_) : Aside0 (d.R e w2 b ok v xs) := ⟨Kd.R_below (hp h.out) hb⟩
theorem zp {α : Type} {d : Kd α} {e : Nat} {w w1 : World} {b : Nat} {ok : Nat → Prop} {v : Value} {xs : List α} (h : Aside0 (d.R e w b ok v xs)) (hp : d.R e w b ok v xs → d.R e w1 b ok v xs := by intro h_; (with_reducible repeat (first | apply Kd.R_alloc | apply Kd.R_drewN | apply Kd.R_drew)); exact h_) : Aside0 (d.R e w1 b ok v xs) := ⟨hp h.out⟩
theorem zs {α : Type} {d : Kd α} {e : Nat} {w w1 : World} {b : Nat} {ok : Nat → Prop} {v : Value} {xs : List α} (h : Aside0 (d.R e w b ok v xs)) (hp : d.R e w b ok v xs → d.R e w1 b ok v xs := by intro h_; (with_reducible repeat (first | apply Kd.R_alloc | apply Kd.R_drewN | apply Kd.R_drew)); exact h_) : d.R e w1 b ok v xs := hp h.out
theorem zy {b w w1 : World} (h : Aside0 (Below b.heap.size b w)) (hp : Below b.heap.size b w → Below b.heap.size b w1 := by intro h_; repeat (first | (with_reducible first | exact h_ | apply below_alloc | apply pw_below_drewN | apply below_drew1 | refine below_set ?_ (Aside0.out zO0_1)) | exact h_)) : Below b.heap.size b w1 := hp h.out
theorem zt {p : Prop} (h : p := by first | rfl | (simp [errW_none, errW_some] <;> rfl) | (simp [*, errW_none, errW_some] <;> rfl)) : p := h
theorem zu {p : Prop} (h : p := by first | rfl | (simp; done) | (simp [*]; done)) : p := h
theorem zc1 {w : World} {g : Nat} {t : TypeId} {a : Value} (h : Aside0 (w.heap[g]? = some (.cells #[a] t (0, 0)))) : w.cell? ⟨g, 0, none⟩ = some a ∧ w.frozen? ⟨g, 0, none⟩ = false := ⟨(blk_cell h.out 0).trans rfl, blk_frozen h.out 0⟩
theorem zc2 {w : World} {g : Nat} {t : TypeId} {a0 a1 : Value} (h : Aside0 (w.heap[g]? = some (.cells #[a0, a1] t (0, 0)))) : w.cell? ⟨g, 0, none⟩ = some a0 ∧ w.cell? ⟨g, 1, none⟩ = some a1 ∧ w.frozen? ⟨g, 0, none⟩ = false ∧ w.frozen? ⟨g, 1, none⟩ = false := ⟨(blk_cell h.out 0).trans rfl, (blk_cell h.out 1).trans rfl, blk_frozen h.out 0, blk_frozen h.out 1⟩
theorem zc3 {w : World} {g : Nat} {t : TypeId} {a0 a1 a2 : Value} (h : Aside0 (w.heap[g]? = some (.cells #[a0, a1, a2] t (0, 0)))) : w.cell? ⟨g, 0, none⟩ = some a0 ∧ w.cell? ⟨g, 1, none⟩ = some a1 ∧ w.cell? ⟨g, 2, none⟩ = some a2 ∧ w.frozen? ⟨g, 0, none⟩ = false ∧ w.frozen? ⟨g, 1, none⟩ = false ∧ w.frozen? ⟨g, 2, none⟩ = false := ⟨(blk_cell h.out 0).trans rfl, (blk_cell h.out 1).trans rfl, (blk_cell h.out 2).trans rfl, blk_frozen h.out 0, blk_frozen h.out 1, blk_frozen h.out 2⟩
theorem zc4 {w : World} {g : Nat} {t : TypeId} {a0 a1 a2 a3 : Value} (h : Aside0 (w.heap[g]? = some (.cells #[a0, a1, a2, a3] t (0, 0)))) : w.cell? ⟨g, 0, none⟩ = some a0 ∧ w.cell? ⟨g, 1, none⟩ = some a1 ∧ w.cell? ⟨g, 2, none⟩ = some a2 ∧ w.cell? ⟨g, 3, none⟩ = some a3 ∧ w.frozen? ⟨g, 0, none⟩ = false ∧ w.frozen? ⟨g, 1, none⟩ = false ∧ w.frozen? ⟨g, 2, none⟩ = false ∧ w.frozen? ⟨g, 3, none⟩ = false := ⟨(blk_cell h.out 0).trans rfl, (blk_cell h.out 1).trans rfl, (blk_cell h.out 2).trans rfl, (blk_cell h.out 3).trans rfl, blk_frozen h.out 0, blk_frozen h.out 1, blk_frozen h.out 2, blk_frozen h.out 3⟩
theorem zc5 {w : World} {g : Nat} {t : TypeId} {a0 a1 a2 a3 a4 : Value} (h : Aside0 (w.heap[g]? = some (.cells #[a0, a1, a2, a3, a4] t (0, 0)))) : w.cell? ⟨g, 0, none⟩ = some a0 ∧ w.cell? ⟨g, 1, none⟩ = some a1 ∧ w.cell? ⟨g, 2, none⟩ = some a2 ∧ w.cell? ⟨g, 3, none⟩ = some a3 ∧ w.cell? ⟨g, 4, none⟩ = some a4 ∧ w.frozen? ⟨g, 0, none⟩ = false ∧ w.frozen? ⟨g, 1, none⟩ = false ∧ w.frozen? ⟨g, 2, none⟩ = false ∧ w.frozen? ⟨g, 3, none⟩ = false ∧ w.frozen? ⟨g, 4, none⟩ = false := ⟨(blk_cell h.out 0).trans rfl, (blk_cell h.out 1).trans rfl, (blk_cell h.out 2).trans rfl, (blk_cell h.out 3).trans rfl, (blk_cell h.out 4).trans rfl, blk_frozen h.out 0, blk_frozen h.out 1, blk_frozen h.out 2, blk_frozen h.out 3, blk_frozen h.out 4⟩
theorem zc6 {w : World} {g : Nat} {t : TypeId} {a0 a1 a2 a3 a4 a5 : Value} (h : Aside0 (w.heap[g]? = some (.cells #[a0, a1, a2, a3, a4, a5] t (0, 0)))) : w.cell? ⟨g, 0, none⟩ = some a0 ∧ w.cell? ⟨g, 1, none⟩ = some a1 ∧ w.cell? ⟨g, 2, none⟩ = some a2 ∧ w.cell? ⟨g, 3, none⟩ = some a3 ∧ w.cell? ⟨g, 4, none⟩ = some a4 ∧ w.cell? ⟨g, 5, none⟩ = some a5 ∧ w.frozen? ⟨g, 0, none⟩ = false ∧ w.frozen? ⟨g, 1, none⟩ = false ∧ w.frozen? ⟨g, 2, none⟩ = false ∧ w.frozen? ⟨g, 3, none⟩ = false ∧ w.frozen? ⟨g, 4, none⟩ = false ∧ w.frozen? ⟨g, 5, none⟩ = false := ⟨(blk_cell h.out 0).trans rfl, (blk_cell h.out 1).trans rfl, (blk_cell h.out 2).trans rfl, (blk_cell h.out 3).trans rfl, (blk_cell h.out 4).trans rfl, (blk_cell h.out 5).trans rfl, blk_frozen h.out 0, blk_frozen h.out 1, blk_frozen h.out 2, blk_frozen h.out 3, blk_frozen h.out 4, blk_frozen h.out 5⟩
theorem zE {P : Program} {ops : Array Oper} {rest : List Oper} {o : Oper} {a : Act} {Q : Exit → Act → World → Prop} {W : World} (N : Tmp) (cs : Array Value) (t : TypeId) (h : ∀ g, g = W.heap.size → ∀ w1, w1.heap[g]? = some (.cells cs t (0, 0)) → Below W.heap.size W w1 → wpList P ops Q rest (a.put o.dst (.pointer (some ⟨g, 0, none⟩))) w1) (hd : o.dst = some N := by rfl) (hgd : o.guard = none := by rfl) (hrun : (execOp a.eval o).run P W = .ok (.value (.pointer (some ⟨W.heap.size, 0, none⟩))) (W.alloc (.cells cs t (0, 0))) := by first | (go_simp; done) | (go_simp; rfl)) : wpList P ops Q (o :: rest) a W := box_event hgd hd hrun h
theorem zG {P : Program} {ops : Array Oper} {Q : Exit → Act → World → Prop} {rest : List Oper} {oi : Oper} {a : Act} {w : World} (N : Option Tmp) {f : FuncId} {fn : Func} {ao : Array Operand} {ts : Array TypeId} (hf : P.funcs[f]? = some fn) (args : Array Value) (h : Calls P f args w fun e w' => ∃ v, e = .returned v ∧ wpList P ops Q rest (a.put N v) w') (hd : oi.dst = N := by rfl) (hg : oi.guard = none := by rfl) (hname : (fn.name == "runtime.NumGoroutine") = false := by first | decide +kernel | kernel_rfl) (hb : fn.body.isSome = true := by rfl) (hop : oi.op = .call { callee := .value (.func f), args := ao, argTypes := ts } := by rfl) (hargs : ao.map a.eval = args := by ((try simp only [List.map_toArray, List.map_cons, List.map_nil]); first | done | rfl | (simp only [List.length_drop, List.length_take]; rfl))) : wpList P ops Q (oi :: rest) a w := goesL_ N hd hg hf hname hb args hop hargs h
theorem zw_set {w : World} {g : Nat} {t : TypeId} {cs : Array Value} {i : Nat} {u : Value} (zw_1 : w.heap[g]? = some (.cells cs t (0, 0))) : (w.setCell ⟨g, i, none⟩ u).heap[g]? = some (.cells (cs.setIfInBounds i u) t (0, 0)) := blk_set zw_1 i u
theorem zw_far {w : World} {g : Nat} {t : TypeId} {cs : Array Value} {p : Addr} {u : Value} (zw_2 : w.heap[g]? = some (.cells cs t (0, 0))) (zw_3 : Aside0 (g ≠ p.block)) : (w.setCell p u).heap[g]? = some (.cells cs t (0, 0)) := blk_far zw_2 zw_3.out u
theorem zw {w w1 : World} {g : Nat} {t : TypeId} {cs cs1 cs2 : Array Value} (h : Aside0 (w.heap[g]? = some (.cells cs t (0, 0)))) (hp : w.heap[g]? = some (.cells cs t (0, 0)) → w1.heap[g]? = some (.cells cs1 t (0, 0)) := by (intro h_; (with_reducible repeat (first | refine blk_drewN ?_ _ | refine blk_drew ?_ | refine blk_alloc ?_ _ | apply zw_set | (apply zw_far; rotate_left; assumption))); exact h_)) (he : cs1 = cs2 := by rfl) : w1.heap[g]? = some (.cells cs2 t (0, 0)) := he ▸ hp h.out
theorem zKe {w w1 w2 : World} {g : Nat} {row : Option Nat} (h : Aside0 (KeepBut w w1 g row)) (hp : KeepBut w w1 g row → KeepBut w w2 g row := by (intro h_; repeat (first | (with_reducible first | exact h_ | apply KeepBut.set_ | apply keep_drewN | apply keep_drew | apply keep_alloc | refine keep_far ?_ (Aside0.out zO0_1) _) | exact h_))) : KeepBut w w2 g row := hp h.out
theorem zKb {w w1 w2 w3 : World} {g : Nat} {row : Option Nat} (h : Aside0 (KeepBut w w1 g row)) (hb : Below w2.heap.size w2 w3) (hp : KeepBut w w1 g row → KeepBut w w2 g row := by (intro h_; repeat (first | (with_reducible first | exact h_ | apply KeepBut.set_ | apply keep_drewN | apply keep_drew | apply keep_alloc | refine keep_far ?_ (Aside0.out zO0_1) _) | exact h_))) : Aside0 (KeepBut w w3 g row) := ⟨KeepBut.trans (hp h.out) (KeepBut.of_below hb g row) (.inl rfl)⟩
theorem zKt {w w1 w2 w3 : World} {g : Nat} {row : Option Nat} (h : Aside0 (KeepBut w w1 g row)) (hk : KeepBut w2 w3 g row) (hp : KeepBut w w1 g row → KeepBut w w2 g row := by (intro h_; repeat (first | (with_reducible first | exact h_ | apply KeepBut.set_ | apply keep_drewN | apply keep_drew | apply keep_alloc | refine keep_far ?_ (Aside0.out zO0_1) _) | exact h_))) : Aside0 (KeepBut w w3 g row) := ⟨KeepBut.trans (hp h.out) hk (.inl rfl)⟩
theorem zKg {w w1 w2 : World} {g g2 : Nat} {row : Option Nat} (h : Aside0 (KeepBut w w1 g row)) (hg : g2 = w2.heap.size) (hp : KeepBut w w1 g row → KeepBut w w2 g row := by (intro h_; repeat (first | (with_reducible first | exact h_ | apply KeepBut.set_ | apply keep_drewN | apply keep_drew | apply keep_alloc | refine keep_far ?_ (Aside0.out zO0_1) _) | exact h_))) : Aside0 (w.heap.size ≤ g2) := ⟨by rw [hg]; exact keep_size (hp h.out)⟩
theorem zKB {w w1 w2 : World} {g g' : Nat} {row : Option Nat} {o : Obj} (h : Aside0 (w.heap[g']? = some o)) (hk : KeepBut w1 w2 g row) (hne : Aside0 (g' ≠ g) := by assumption) (hr : some g' ≠ row := by simp) (hp : w.heap[g']? = some o → w1.heap[g']? = some o := by intro h_; (with_reducible repeat (first | refine blk_drewN ?_ _ | refine blk_drew ?_ | refine blk_alloc ?_ _ | refine blk_far ?_ (Aside0.out zO0_1) _)); exact h_) : Aside0 (w2.heap[g']? = some o) := ⟨KeepBut.blk hk (hp h.out) hne.out hr⟩
theorem zset2 (w : World) (a : Addr) (u v : Value) : (w.setCell a u).setCell a v = w.setCell a v := by
 unfold World.setCell
 simp only [World.mk.injEq, and_true]
 apply Array.ext_getElem?
 intro i
 rw [Array.getElem?_modify, Array.getElem?_modify, Array.getElem?_modify]
 by_cases h : a.block = i
 ·simp only [h, if_true, Option.map_map]
  cases w.heap[i]? with
  | none => rfl
  | some o =>
   simp only [Option.map_some, Function.comp]
   cases o with
   | cells c e f => simp only []; split <;> simp
   | _ => rfl
 ·simp only [h, if_false]
theorem zcellD (w : World) (n : Nat) (a : Addr) : (w.drewN n).cell? a = w.cell? a := by cases n <;> rfl
theorem zfrozenD (w : World) (n : Nat) (a : Addr) : (w.drewN n).frozen? a = w.frozen? a := by cases n <;> rfl



/-! ### zregs: function 0 -/
theorem zA {P : Program} {ops : Array Oper} {Q : Exit → Act → World → Prop} {md : Region.Mode} {S : World → Prop} {ds : List Nat} {T : Bool × List (List Nat × List Nat)} (i : Nat) (N : Nat) {oi : Oper} {v : Value} {fuel : Nat} {l l' : Array Bool} {a a' : Act} {w : World} (hT : Aside0 (rtab md ops = T)) (h : wpAnyLast P md ops Q S ds fuel l' a' w) (hi : ops[i]? = some oi := by rfl) (hN : oi.dst = some N := by rfl) (hl : l.setIfInBounds i true = l' := by (simp only [List.setIfInBounds_toArray, List.set_cons_zero, List.set_cons_succ]; rfl)) (hc : anyT T l.toList l'.toList i = true := by first | decide +kernel | kernel_rfl) (hQ : ∀ c a w, Q (.panic c) (a.put oi.dst v) w → Q (.panic c) a w := by exact fun _ _ _ h => h) (hw : Region.wanted oi (yielded ops a.tmps) = true := by rfl) (hy : ∀ w, (execOp a.eval oi).run P w = .ok (.value v) w := by (intro w'; go_simp; with_reducible rfl)) (ha : a.put (some N) v = a' := by (simp only [Act.put, List.setIfInBounds_toArray, List.set_cons_zero, List.set_cons_succ, i64_w, i32_w]; rfl)) : wpAnyLast P md ops Q S ds (fuel + 1) l a w := pure_ l' hi hN (any_of hT.out hc) hQ (Or.inl ⟨hw, hy⟩) ha h
theorem zA0 {P : Program} {ops : Array Oper} {Q : Exit → Act → World → Prop} {md : Region.Mode} {S : World → Prop} {ds : List Nat} (i : Nat) (N : Nat) {oi : Oper} {v : Value} {fuel : Nat} {l l' : Array Bool} {a a' : Act} {w : World} (h : wpAnyLast P md ops Q S ds fuel l' a' w) (hi : ops[i]? = some oi := by rfl) (hN : oi.dst = some N := by rfl) (hl : l.setIfInBounds i true = l' := by (simp only [List.setIfInBounds_toArray, List.set_cons_zero, List.set_cons_succ]; rfl)) (hc : anyB md ops l l' i = true := by first | decide +kernel | kernel_rfl) (hQ : ∀ c a w, Q (.panic c) (a.put oi.dst v) w → Q (.panic c) a w := by exact fun _ _ _ h => h) (hw : Region.wanted oi (yielded ops a.tmps) = true := by rfl) (hy : ∀ w, (execOp a.eval oi).run P w = .ok (.value v) w := by (intro w'; go_simp; with_reducible rfl)) (ha : a.put (some N) v = a' := by (simp only [Act.put, List.setIfInBounds_toArray, List.set_cons_zero, List.set_cons_succ, i64_w, i32_w]; rfl)) : wpAnyLast P md ops Q S ds (fuel + 1) l a w := pure_ l' hi hN hc hQ (Or.inl ⟨hw, hy⟩) ha h
theorem zAu {P : Program} {ops : Array Oper} {Q : Exit → Act → World → Prop} {md : Region.Mode} {S : World → Prop} {ds : List Nat} {T : Bool × List (List Nat × List Nat)} (i : Nat) (N : Nat) {oi : Oper} {fuel : Nat} {l l' : Array Bool} {a a' : Act} {w : World} (hT : Aside0 (rtab md ops = T)) (h : wpAnyLast P md ops Q S ds fuel l' a' w) (hi : ops[i]? = some oi := by rfl) (hN : oi.dst = some N := by rfl) (hl : l.setIfInBounds i true = l' := by (simp only [List.setIfInBounds_toArray, List.set_cons_zero, List.set_cons_succ]; rfl)) (hc : anyT T l.toList l'.toList i = true := by first | decide +kernel | kernel_rfl) (hQ : ∀ c a w, Q (.panic c) (a.put oi.dst undef) w → Q (.panic c) a w := by exact fun _ _ _ h => h) (hw : Region.wanted oi (yielded ops a.tmps) = false := by rfl) (ha : a.put (some N) undef = a' := by (simp only [Act.put, List.setIfInBounds_toArray, List.set_cons_zero, List.set_cons_succ, i64_w, i32_w]; rfl)) : wpAnyLast P md ops Q S ds (fuel + 1) l a w := pure_ (v := undef) l' hi hN (any_of hT.out hc) hQ (Or.inr ⟨hw, rfl⟩) ha h
theorem zT {P : Program} {ops : Array Oper} {Q : Exit → Act → World → Prop} {md : Region.Mode} {S : World → Prop} {ds : List Nat} {T : Bool × List (List Nat × List Nat)} {B : List Nat} (i : Nat) (N : Nat) {oi : Oper} {v : Value} {fuel : Nat} {l l' : Array Bool} {a a' : Act} {w : World} (hT : Aside0 (rtab md ops = T)) (hB : Aside0 (waitsOk T.2 B = true)) (hS : S w) (h : wpAnyLast P md ops Q S ds fuel l' a' w) (hi : ops[i]? = some oi := by rfl) (hN : oi.dst = some N := by rfl) (hl : l.setIfInBounds i true = l' := by (simp only [List.setIfInBounds_toArray, List.set_cons_zero, List.set_cons_succ]; rfl)) (hc : takeW T B ds l.toList l'.toList i = true := by first | decide +kernel | kernel_rfl) (hQ : ∀ c a w, Q (.panic c) (a.put oi.dst v) w → Q (.panic c) a w := by exact fun _ _ _ h => h) (hw : Region.wanted oi (yielded ops a.tmps) = true := by rfl) (hy : ∀ w, S w → (execOp a.eval oi).run P w = .ok (.value v) w := by (intro w' hs_; (repeat (have hs1_ := hs_.1; replace hs_ := hs_.2)); first | (go_simp; with_reducible rfl) | (simp only [Int.toNat_natCast] at *; go_simp; with_reducible rfl))) (ha : a.put (some N) v = a' := by (simp only [Act.put, List.setIfInBounds_toArray, List.set_cons_zero, List.set_cons_succ, i64_w, i32_w]; rfl)) : wpAnyLast P md ops Q S ds (fuel + 1) l a w := take_ l' hi hN (take_ofW hT.out hB.out hc) hQ (Or.inl ⟨hw, hy⟩) hS ha h
theorem zT0 {P : Program} {ops : Array Oper} {Q : Exit → Act → World → Prop} {md : Region.Mode} {S : World → Prop} {ds : List Nat} (i : Nat) (N : Nat) {oi : Oper} {v : Value} {fuel : Nat} {l l' : Array Bool} {a a' : Act} {w : World} (hS : S w) (h : wpAnyLast P md ops Q S ds fuel l' a' w) (hi : ops[i]? = some oi := by rfl) (hN : oi.dst = some N := by rfl) (hl : l.setIfInBounds i true = l' := by (simp only [List.setIfInBounds_toArray, List.set_cons_zero, List.set_cons_succ]; rfl)) (hc : takeB md ops ds l l' i = true := by first | decide +kernel | kernel_rfl) (hQ : ∀ c a w, Q (.panic c) (a.put oi.dst v) w → Q (.panic c) a w := by exact fun _ _ _ h => h) (hw : Region.wanted oi (yielded ops a.tmps) = true := by rfl) (hy : ∀ w, S w → (execOp a.eval oi).run P w = .ok (.value v) w := by (intro w' hs_; (repeat (have hs1_ := hs_.1; replace hs_ := hs_.2)); first | (go_simp; with_reducible rfl) | (simp only [Int.toNat_natCast] at *; go_simp; with_reducible rfl))) (ha : a.put (some N) v = a' := by (simp only [Act.put, List.setIfInBounds_toArray, List.set_cons_zero, List.set_cons_succ, i64_w, i32_w]; rfl)) : wpAnyLast P md ops Q S ds (fuel + 1) l a w := take_ l' hi hN hc hQ (Or.inl ⟨hw, hy⟩) hS ha h
theorem zO {P : Program} {ops : Array Oper} {Q : Exit → Act → World → Prop} {md : Region.Mode} {S : World → Prop} {ds : List Nat} {T : Bool × List (List Nat × List Nat)} (i : Nat) (N : Option Tmp) {oi : Oper} {fuel : Nat} {l l' : Array Bool} {a : Act} {w : World} (hT : Aside0 (rtab md ops = T)) (h : ∀ K : Act → World → Prop, Shut (∀ a' w', S w' → (S w' → wpAnyLast P md ops Q S ds fuel l' a' w') → K a' w') → if Region.wanted oi (yielded ops a.tmps) = true then Oper.wp P oi a w K Q else K (a.put N undef) w)
  (hi : ops[i]? = some oi := by rfl) (hN : oi.dst = N := by rfl) (hl : l.setIfInBounds i true = l' := by (simp only [List.setIfInBounds_toArray, List.set_cons_zero, List.set_cons_succ]; rfl)) (hc : (readyT T.2 l.toList == [i] && l.toList.set i true == l'.toList) = true := by first | decide +kernel | kernel_rfl) (hd : i ∉ ds := by decide) : wpAnyLast P md ops Q S ds (fuel + 1) l a w := one_ l' hi hN (one_of hT.out hc) hd h
theorem zN {P : Program} {ops : Array Oper} {Q : Exit → Act → World → Prop} {md : Region.Mode} {S : World → Prop} {ds : List Nat} (n : Nat) {fuel : Nat} {l : Array Bool} {a a' : Act} {w : World} {v : Value} (h : wpAnyLast P md ops Q S ds fuel l a' w) (ha : a.put (some n) v = a' := by (simp only [Act.put, List.setIfInBounds_toArray, List.set_cons_zero, List.set_cons_succ, i64_w, i32_w]; rfl)) : wpAnyLast P md ops Q S ds fuel l (a.put (some n) v) w := norm_ ha h



/-! ### laws_big: function 4 -/
def laws_big.f (l0 : List Int) (l1 : List Int) : Option (Bool) := if (l0.length : Int) > 1048576 then (some true) else (some (decide ((l1.length : Int) > (wrap64 (1048576 - (l0.length : Int))))))
set_option maxHeartbeats 8000000 in
set_option maxRecDepth 100000 in
theorem laws_big.calls (A0 : Option Addr) (c0 : Nat) (l0 : List Int) (A1 : Option Addr) (c1 : Nat) (l1 : List Int) (r : Bool) (w : World) (hr0 : Kd.C (Kd.int .u8) w A0 l0.length l0) (hc0 : l0.length ≤ c0) (hr1 : Kd.C (Kd.int .u8) w A1 l1.length l1) (hc1 : l1.length ≤ c1) (h : laws_big.f l0 l1 = some r) :
  Calls Try.prog 4 #[.slice A0 l0.length c0, .slice A1 l1.length c1] w fun e w' => e = .returned (.bool r) ∧ Drawn0 w w' := by
 have HR0 := Aside0.mk hr0; have HC0 := Aside0.mk hc0; clear hr0 hc0; have HR1 := Aside0.mk hr1; have HC1 := Aside0.mk hc1; clear hr1 hc1
 have H : (if (l0.length : Int) > 1048576 then (some true) else (some (decide ((l1.length : Int) > (wrap64 (1048576 - (l0.length : Int))))))) = some r := h
 clear h
 by_cases c3 : (l0.length : Int) > 1048576
 ·rw [if_pos c3] at H
  have c3b0 : decide (1048576 < (l0.length : Int)) = true := decide_eq_true c3
  have c3b1 : decide (1048576 < l0.length) = true := decide_eq_true (by omega)
  clear c3
  obtain rfl := Option.some.inj H
  go_enter Try.func4, Try.ntmps4
  go_wp2
  go_ret
  exact ⟨by first | rfl | (simp; done) | (simp [*]; done), by repeat (first | exact Drawn0.refl _ | apply Drawn0.step)⟩
 ·rw [if_neg c3] at H
  have c3b0 : decide (1048576 < (l0.length : Int)) = false := decide_eq_false c3
  have c3b1 : decide (1048576 < l0.length) = false := decide_eq_false (by omega)
  clear c3
  obtain rfl := Option.some.inj H
  go_enter Try.func4, Try.ntmps4
  go_wp2
  go_ret
  exact ⟨by first | rfl | (simp; done) | (simp [*]; done), by repeat (first | exact Drawn0.refl _ | apply Drawn0.step)⟩


/-- A state of type 65 at block g of W; what its slices lead to came in by w0. -/
def IsS65 (w0 W : World) (g : Nat) (f0 : List Int) (f1 : Int) (f2 : Int) : Prop := ∃ A0 c0, W.heap[g]? = some (.cells #[.slice A0 f0.length c0, .int .i64 f1, .int .u64 f2] 65 (0, 0)) ∧ w0.heap.size ≤ g ∧ Kd.C (Kd.int .u8) w0 A0 f0.length f0
theorem IsS65.grown {w0 W : World} {g : Nat} {f0 : List Int} {f1 : Int} {f2 : Int} {W1 : World} {row : Option Nat} (h : IsS65 w0 W g f0 f1 f2) (hw : W.grownBy W1 row) (hne : some g ≠ row) : IsS65 w0 W1 g f0 f1 f2 := by
 obtain ⟨A0, c0, hb, hg, hr0⟩ := h
 exact ⟨A0, c0, blk_grown hb hw hne, hg, hr0⟩
theorem IsS65.own_neN {w0 W : World} {g : Nat} {f0 : List Int} {f1 : Int} {f2 : Int} {α : Type} {d : Kd α} {e : Nat} {base : Nat} {ok : Nat → Prop} {v : Value} {xs : List α} (h : IsS65 w0 W g f0 f1 f2) (ho : Kd.N d e W base ok v xs) (ht : e ≠ 65) : some g ≠ v.ownBlock := by
 obtain ⟨A0, c0, hb, hg, hr0⟩ := h
 exact Kd.N_ne ho hb ht
theorem IsS65.fresh {w0 W : World} {g : Nat} {f0 : List Int} {f1 : Int} {f2 : Int} (h : IsS65 w0 W g f0 f1 f2) : ∀ k, W.heap.size ≤ k → k ≠ g := by
 obtain ⟨A0, c0, hb, hg, hr0⟩ := h
 exact Kd.freshB hb
theorem IsS65.kept {w0 W : World} {g : Nat} {f0 : List Int} {f1 : Int} {f2 : Int} {W1 : World} {S : Nat → Prop} (h : IsS65 w0 W g f0 f1 f2) (hk : Kept W W1 S) (hne : ¬ S g) : IsS65 w0 W1 g f0 f1 f2 := by
 obtain ⟨A0, c0, hb, hg, hr0⟩ := h
 exact ⟨A0, c0, blk_kept hb hk hne, hg, hr0⟩
theorem IsS65.below {w0 W : World} {g : Nat} {f0 : List Int} {f1 : Int} {f2 : Int} {W1 : World} (h : IsS65 w0 W g f0 f1 f2) (hw : Below W.heap.size W W1) : IsS65 w0 W1 g f0 f1 f2 := h.grown (grown_of_below hw none) zO0_2
theorem IsS65.alloc {w0 W : World} {g : Nat} {f0 : List Int} {f1 : Int} {f2 : Int} (h : IsS65 w0 W g f0 f1 f2) (o : Obj) : IsS65 w0 (W.alloc o) g f0 f1 f2 := h.below (below_alloc (Below.refl _ _) o)
theorem IsS65.drewN {w0 W : World} {g : Nat} {f0 : List Int} {f1 : Int} {f2 : Int} (h : IsS65 w0 W g f0 f1 f2) (m : Nat) : IsS65 w0 (W.drewN m) g f0 f1 f2 := h
theorem IsS65.drew {w0 W : World} {g : Nat} {f0 : List Int} {f1 : Int} {f2 : Int} (h : IsS65 w0 W g f0 f1 f2) : IsS65 w0 W.drew g f0 f1 f2 := h
theorem IsS65.at_ {w0 W : World} {g : Nat} {f0 : List Int} {f1 : Int} {f2 : Int} {w' : World} {m : Nat} (hq : W.drewN m = w') (h : IsS65 w0 W g f0 f1 f2) : IsS65 w0 w' g f0 f1 f2 := by subst hq; exact IsS65.drewN h m
theorem IsS65.apart {w0 W : World} {g : Nat} {f0 : List Int} {f1 : Int} {f2 : Int} {α : Type} {d : Kd α} {e : Nat} {base : Nat} {ok : Nat → Prop} {v : Value} {xs : List α} (h : IsS65 w0 W g f0 f1 f2) (ho : d.R e W base ok v xs) (ht : ∀ q, q ∈ e :: d.E → q ≠ 65) : d.R e W base (fun k => ok k ∧ k ≠ g) v xs := by
 obtain ⟨A0, c0, hb, hg, hr0⟩ := h
 exact Kd.R_types ho hb ht
theorem IsS65.own_ne {w0 W : World} {g : Nat} {f0 : List Int} {f1 : Int} {f2 : Int} {α : Type} {d : Kd α} {e : Nat} {base : Nat} {ok : Nat → Prop} {v : Value} {xs : List α} (h : IsS65 w0 W g f0 f1 f2) (ho : d.R e W base ok v xs) (ht : e ≠ 65) : some g ≠ v.ownBlock := by
 obtain ⟨A0, c0, hb, hg, hr0⟩ := h
 exact Kd.R_ne ho hb ht
theorem IsS65.apartQ {w0 W : World} {g : Nat} {f0 : List Int} {f1 : Int} {f2 : Int} {α : Type} {d : Kd α} {e : Nat} {base : Nat} {ok : Nat → Prop} {v : Value} {xs : List α} (h : IsS65 w0 W g f0 f1 f2) (ho : d.Q e W base ok v xs) (ht : ∀ q, q ∈ e :: d.E → q ≠ 65) : d.Q e W base (fun k => ok k ∧ k ≠ g) v xs := by
 obtain ⟨A0, c0, hb, hg, hr0⟩ := h
 exact Kd.Q_types ho hb ht
theorem IsS65.own_neQ {w0 W : World} {g : Nat} {f0 : List Int} {f1 : Int} {f2 : Int} {α : Type} {d : Kd α} {e : Nat} {base : Nat} {ok : Nat → Prop} {v : Value} {xs : List α} (h : IsS65 w0 W g f0 f1 f2) (ho : d.Q e W base ok v xs) (ht : e ≠ 65) : some g ≠ v.ownBlock := by
 obtain ⟨A0, c0, hb, hg, hr0⟩ := h
 exact Kd.Q_ne ho hb ht
theorem IsS65.apartS {w0 W : World} {g : Nat} {f0 : List Int} {f1 : Int} {f2 : Int} {α : Type} {d : Kd α} {e : Nat} {base : Nat} {ok : Nat → Prop} {v : Value} {xs : List α} (h : IsS65 w0 W g f0 f1 f2) (ho : d.S e W base ok v xs) (ht : ∀ q, q ∈ e :: d.E → q ≠ 65) : d.S e W base (fun k => ok k ∧ k ≠ g) v xs := by
 obtain ⟨A0, c0, hb, hg, hr0⟩ := h
 exact Kd.S_types ho hb ht
theorem IsS65.own_neS {w0 W : World} {g : Nat} {f0 : List Int} {f1 : Int} {f2 : Int} {α : Type} {d : Kd α} {e : Nat} {base : Nat} {ok : Nat → Prop} {v : Value} {xs : List α} (h : IsS65 w0 W g f0 f1 f2) (ho : d.S e W base ok v xs) (ht : e ≠ 65) : some g ≠ v.ownBlock := by
 obtain ⟨A0, c0, hb, hg, hr0⟩ := h
 exact Kd.S_ne ho hb ht
theorem IsS65.lt {w0 W : World} {g : Nat} {f0 : List Int} {f1 : Int} {f2 : Int} (h : IsS65 w0 W g f0 f1 f2) : g < W.heap.size := by
 obtain ⟨A0, c0, hb, hg, hr0⟩ := h
 exact blk_lt hb
theorem IsS65.ge {w0 W : World} {g : Nat} {f0 : List Int} {f1 : Int} {f2 : Int} (h : IsS65 w0 W g f0 f1 f2) : w0.heap.size ≤ g := by
 obtain ⟨A0, c0, hb, hg, hr0⟩ := h
 exact hg
theorem IsS65.ne_blk {w0 W : World} {g : Nat} {f0 : List Int} {f1 : Int} {f2 : Int} {a : Nat} {cs : Array Value} {t : TypeId} {fr : Nat × Nat} (h : IsS65 w0 W g f0 f1 f2) (hb2 : W.heap[a]? = some (.cells cs t fr)) (ht : t ≠ 65) : g ≠ a := by
 obtain ⟨A0, c0, hb, hg, hr0⟩ := h
 rintro rfl
 rw [hb] at hb2
 injection hb2 with hb2
 injection hb2 with _ ht2
 exact ht ht2.symm
theorem IsS65.far {w0 W : World} {g : Nat} {f0 : List Int} {f1 : Int} {f2 : Int} {p : Addr} (h : IsS65 w0 W g f0 f1 f2) (hne : g ≠ p.block) (u : Value) : IsS65 w0 (W.setCell p u) g f0 f1 f2 := by
 obtain ⟨A0, c0, hb, hg, hr0⟩ := h
 exact ⟨A0, c0, blk_far hb hne u, hg, hr0⟩
theorem cellS65_0 {W : World} {g : Nat} {A0 : Option Addr} {c0 : Nat} {f0 : List Int} {f1 : Int} {f2 : Int} (h : W.heap[g]? = some (.cells #[.slice A0 f0.length c0, .int .i64 f1, .int .u64 f2] 65 (0, 0))) : W.cell? ⟨g, 0, none⟩ = some (.slice A0 f0.length c0) := (blk_cell h 0).trans rfl
theorem cellS65_1 {W : World} {g : Nat} {A0 : Option Addr} {c0 : Nat} {f0 : List Int} {f1 : Int} {f2 : Int} (h : W.heap[g]? = some (.cells #[.slice A0 f0.length c0, .int .i64 f1, .int .u64 f2] 65 (0, 0))) : W.cell? ⟨g, 1, none⟩ = some (.int .i64 f1) := (blk_cell h 1).trans rfl
theorem IsS65.set_1 {w0 W : World} {g : Nat} {f0 : List Int} {f1 : Int} {f2 : Int} (h : IsS65 w0 W g f0 f1 f2) (x : Int) : IsS65 w0 (W.setCell ⟨g, 1, none⟩ (.int .i64 x)) g f0 x f2 := by
 obtain ⟨A0, c0, hb, hg, hr0⟩ := h
 exact ⟨A0, c0, by simpa using blk_set hb 1 (.int .i64 x), hg, hr0⟩
theorem cellS65_2 {W : World} {g : Nat} {A0 : Option Addr} {c0 : Nat} {f0 : List Int} {f1 : Int} {f2 : Int} (h : W.heap[g]? = some (.cells #[.slice A0 f0.length c0, .int .i64 f1, .int .u64 f2] 65 (0, 0))) : W.cell? ⟨g, 2, none⟩ = some (.int .u64 f2) := (blk_cell h 2).trans rfl
theorem IsS65.set_2 {w0 W : World} {g : Nat} {f0 : List Int} {f1 : Int} {f2 : Int} (h : IsS65 w0 W g f0 f1 f2) (x : Int) : IsS65 w0 (W.setCell ⟨g, 2, none⟩ (.int .u64 x)) g f0 f1 x := by
 obtain ⟨A0, c0, hb, hg, hr0⟩ := h
 exact ⟨A0, c0, by simpa using blk_set hb 2 (.int .u64 x), hg, hr0⟩
theorem IsS65.new (w0 W : World) (A0 : Option Addr) (c0 : Nat) (f0 : List Int) (f1 : Int) (f2 : Int) (hB : Below w0.heap.size w0 W) (hr0 : Kd.C (Kd.int .u8) w0 A0 f0.length f0) : IsS65 w0 (W.alloc (.cells #[.slice A0 f0.length c0, .int .i64 f1, .int .u64 f2] 65)) W.heap.size f0 f1 f2 := ⟨A0, c0, by simpa using heap_alloc_new W _, hB.size, hr0⟩
theorem zI65 {w0 w w1 : World} {g : Nat} {f0 : List Int} {f1 : Int} {f2 : Int} {e0 : List Int} {e1 : Int} {e2 : Int} (h : Aside0 (IsS65 w0 w g f0 f1 f2)) (hp : IsS65 w0 w g f0 f1 f2 → IsS65 w0 w1 g e0 e1 e2 := by (intro h_; first | ((repeat (first | (with_reducible first | exact h_ | apply IsS65.alloc | apply IsS65.drewN | apply IsS65.drew | apply IsS65.set_1 | apply IsS65.set_2 | refine IsS65.far ?_ (Aside0.out zO0_1) _) | exact h_)); done) | (simp only [Int.add_zero, Int.zero_add]; repeat (first | (with_reducible first | exact h_ | apply IsS65.alloc | apply IsS65.drewN | apply IsS65.drew | apply IsS65.set_1 | apply IsS65.set_2 | refine IsS65.far ?_ (Aside0.out zO0_1) _) | exact h_)))) : IsS65 w0 w1 g e0 e1 e2 := hp h.out
theorem zJ65 {w0 w w1 w2 : World} {g : Nat} {f0 : List Int} {f1 : Int} {f2 : Int} {e0 : List Int} {e1 : Int} {e2 : Int} (h : Aside0 (IsS65 w0 w g f0 f1 f2)) (hb : Below w1.heap.size w1 w2) (hp : IsS65 w0 w g f0 f1 f2 → IsS65 w0 w1 g e0 e1 e2 := by (intro h_; first | ((repeat (first | (with_reducible first | exact h_ | apply IsS65.alloc | apply IsS65.drewN | apply IsS65.drew | apply IsS65.set_1 | apply IsS65.set_2 | refine IsS65.far ?_ (Aside0.out zO0_1) _) | exact h_)); done) | (simp only [Int.add_zero, Int.zero_add]; repeat (first | (with_reducible first | exact h_ | apply IsS65.alloc | apply IsS65.drewN | apply IsS65.drew | apply IsS65.set_1 | apply IsS65.set_2 | refine IsS65.far ?_ (Aside0.out zO0_1) _) | exact h_)))) : Aside0 (IsS65 w0 w2 g e0 e1 e2) := ⟨IsS65.below (hp h.out) hb⟩
theorem zL65 {w0 w w1 : World} {g g2 : Nat} {f0 : List Int} {f1 : Int} {f2 : Int} {e0 : List Int} {e1 : Int} {e2 : Int} (h : Aside0 (IsS65 w0 w g f0 f1 f2)) (hg : g2 = w1.heap.size) (hp : IsS65 w0 w g f0 f1 f2 → IsS65 w0 w1 g e0 e1 e2 := by (intro h_; first | ((repeat (first | (with_reducible first | exact h_ | apply IsS65.alloc | apply IsS65.drewN | apply IsS65.drew | apply IsS65.set_1 | apply IsS65.set_2 | refine IsS65.far ?_ (Aside0.out zO0_1) _) | exact h_)); done) | (simp only [Int.add_zero, Int.zero_add]; repeat (first | (with_reducible first | exact h_ | apply IsS65.alloc | apply IsS65.drewN | apply IsS65.drew | apply IsS65.set_1 | apply IsS65.set_2 | refine IsS65.far ?_ (Aside0.out zO0_1) _) | exact h_)))) : Aside0 (g ≠ g2) := ⟨by rw [hg]; exact Nat.ne_of_lt (IsS65.lt (hp h.out))⟩
theorem zR65 {w0 w w1 : World} {g g2 : Nat} {f0 : List Int} {f1 : Int} {f2 : Int} {e0 : List Int} {e1 : Int} {e2 : Int} (h : Aside0 (IsS65 w0 w g f0 f1 f2)) (hg : g2 = w1.heap.size) (hp : IsS65 w0 w g f0 f1 f2 → IsS65 w0 w1 g e0 e1 e2 := by (intro h_; first | ((repeat (first | (with_reducible first | exact h_ | apply IsS65.alloc | apply IsS65.drewN | apply IsS65.drew | apply IsS65.set_1 | apply IsS65.set_2 | refine IsS65.far ?_ (Aside0.out zO0_1) _) | exact h_)); done) | (simp only [Int.add_zero, Int.zero_add]; repeat (first | (with_reducible first | exact h_ | apply IsS65.alloc | apply IsS65.drewN | apply IsS65.drew | apply IsS65.set_1 | apply IsS65.set_2 | refine IsS65.far ?_ (Aside0.out zO0_1) _) | exact h_)))) : Aside0 (g2 ≠ g) := ⟨by rw [hg]; exact Nat.ne_of_gt (IsS65.lt (hp h.out))⟩
theorem zY65 {b w w1 : World} (h : Aside0 (Below b.heap.size b w)) (hp : Below b.heap.size b w → Below b.heap.size b w1 := by (intro h_; repeat (first | (with_reducible first | exact h_ | apply below_alloc | apply pw_below_drewN | apply below_drew1 | refine below_set ?_ (Aside0.out zO0_1) | refine below_set ?_ (IsS65.ge (Aside0.out zO0_1))) | exact h_))) : Below b.heap.size b w1 := hp h.out
theorem zH65 {b w w1 w2 : World} (h : Aside0 (Below b.heap.size b w)) (hb : Below w1.heap.size w1 w2) (hp : Below b.heap.size b w → Below b.heap.size b w1 := by (intro h_; repeat (first | (with_reducible first | exact h_ | apply below_alloc | apply pw_below_drewN | apply below_drew1 | refine below_set ?_ (Aside0.out zO0_1) | refine below_set ?_ (IsS65.ge (Aside0.out zO0_1))) | exact h_))) : Aside0 (Below b.heap.size b w2) := ⟨below_step (hp h.out) hb⟩

/-! ### spec_l1Cur_next: function 68 -/
def spec_l1Cur_next.f (s0_0 : List Int) (s0_1 : Int) (s0_2 : Int) : Option (Int × Int × Int) := if s0_1 < (s0_0.length : Int) then (if 0 ≤ s0_1 then (if (wrap64 (s0_1 + 1)) ≤ (s0_0.length : Int) then (some (wrap64 (rd s0_0 s0_1), wrap64 (s0_1 + 1), IntKind.u64.wrap ((IntKind.u64.wrap ((IntKind.u64.wrap (s0_2 * 6364136223846793005)) + (IntKind.u64.wrap (wrap64 (rd s0_0 s0_1))))) + 1442695040888963407))) else (some (wrap64 (Go.bits .and .u64 ((IntKind.u64.wrap ((IntKind.u64.wrap ((IntKind.u64.wrap (s0_2 * 6364136223846793005)) + (IntKind.u64.wrap (wrap64 (rd s0_0 s0_1))))) + 1442695040888963407)) / 1099511627776) 255), wrap64 (s0_1 + 1), IntKind.u64.wrap ((IntKind.u64.wrap ((IntKind.u64.wrap (s0_2 * 6364136223846793005)) + (IntKind.u64.wrap (wrap64 (rd s0_0 s0_1))))) + 1442695040888963407)))) else (none)) else (if (wrap64 (s0_1 + 1)) ≤ (s0_0.length : Int) then (some (0, wrap64 (s0_1 + 1), IntKind.u64.wrap ((IntKind.u64.wrap ((IntKind.u64.wrap (s0_2 * 6364136223846793005)) + 0)) + 1442695040888963407))) else (some (wrap64 (Go.bits .and .u64 ((IntKind.u64.wrap ((IntKind.u64.wrap ((IntKind.u64.wrap (s0_2 * 6364136223846793005)) + 0)) + 1442695040888963407)) / 1099511627776) 255), wrap64 (s0_1 + 1), IntKind.u64.wrap ((IntKind.u64.wrap ((IntKind.u64.wrap (s0_2 * 6364136223846793005)) + 0)) + 1442695040888963407))))
set_option maxHeartbeats 8000000 in
set_option maxRecDepth 100000 in
theorem spec_l1Cur_next.calls (g : Nat) (s0_0 : List Int) (s0_1 : Int) (s0_2 : Int) (r1 : Int) (r2 : Int) (r3 : Int) (w0 w : World) (hI : IsS65 w0 w g s0_0 s0_1 s0_2) (hB : Below w0.heap.size w0 w) (h : spec_l1Cur_next.f s0_0 s0_1 s0_2 = some (r1, r2, r3)) :
  Calls Try.prog 68 #[.pointer (some ⟨g, 0, none⟩)] w fun e w' => e = .returned (.int .i64 r1) ∧ IsS65 w0 w' g s0_0 r2 r3 ∧ Below w0.heap.size w0 w' ∧ KeepBut w w' g none := by
 have HI0 := Aside0.mk hI
 have HK := Aside0.mk (KeepBut.refl w g none)
 have HL := Aside0.mk hB.size; clear hI; have HW0 := Aside0.mk hB.size; have HB := Aside0.mk hB; clear hB
 have H : (if s0_1 < (s0_0.length : Int) then (if 0 ≤ s0_1 then (if (wrap64 (s0_1 + 1)) ≤ (s0_0.length : Int) then (some (wrap64 (rd s0_0 s0_1), wrap64 (s0_1 + 1), IntKind.u64.wrap ((IntKind.u64.wrap ((IntKind.u64.wrap (s0_2 * 6364136223846793005)) + (IntKind.u64.wrap (wrap64 (rd s0_0 s0_1))))) + 1442695040888963407))) else (some (wrap64 (Go.bits .and .u64 ((IntKind.u64.wrap ((IntKind.u64.wrap ((IntKind.u64.wrap (s0_2 * 6364136223846793005)) + (IntKind.u64.wrap (wrap64 (rd s0_0 s0_1))))) + 1442695040888963407)) / 1099511627776) 255), wrap64 (s0_1 + 1), IntKind.u64.wrap ((IntKind.u64.wrap ((IntKind.u64.wrap (s0_2 * 6364136223846793005)) + (IntKind.u64.wrap (wrap64 (rd s0_0 s0_1))))) + 1442695040888963407)))) else (none)) else (if (wrap64 (s0_1 + 1)) ≤ (s0_0.length : Int) then (some (0, wrap64 (s0_1 + 1), IntKind.u64.wrap ((IntKind.u64.wrap ((IntKind.u64.wrap (s0_2 * 6364136223846793005)) + 0)) + 1442695040888963407))) else (some (wrap64 (Go.bits .and .u64 ((IntKind.u64.wrap ((IntKind.u64.wrap ((IntKind.u64.wrap (s0_2 * 6364136223846793005)) + 0)) + 1442695040888963407)) / 1099511627776) 255), wrap64 (s0_1 + 1), IntKind.u64.wrap ((IntKind.u64.wrap ((IntKind.u64.wrap (s0_2 * 6364136223846793005)) + 0)) + 1442695040888963407))))) = some (r1, r2, r3) := h
 clear h
 by_cases c2 : s0_1 < (s0_0.length : Int)
 ·rw [if_pos c2] at H
  have c2b0 : decide (s0_1 < (s0_0.length : Int)) = true := decide_eq_true c2; clear c2
  by_cases c3 : 0 ≤ s0_1
  ·rw [if_pos c3] at H
   have c3b0 : decide (0 ≤ s0_1) = true := decide_eq_true c3; clear c3
   by_cases c4 : (wrap64 (s0_1 + 1)) ≤ (s0_0.length : Int)
   ·rw [if_pos c4] at H
    have c4b0 : decide ((wrap64 (s0_1 + 1)) ≤ (s0_0.length : Int)) = true := decide_eq_true c4; clear c4; simp only [Option.some.injEq, Prod.mk.injEq] at H; obtain ⟨rfl, rfl, rfl⟩ := H
    obtain ⟨ASz5_0, cSz5_0, HGz5, hgz5, HSz5_0⟩ := HI0.out
    have hcz5_0 := cellS65_0 HGz5
    have hcz5_1 := cellS65_1 HGz5
    have hcz5_2 := cellS65_2 HGz5
    have hfz5_1 := blk_frozen HGz5 1
    have hfz5_2 := blk_frozen HGz5 2
    clear HGz5 hgz5
    have p101 : 0 ≤ (s0_1 : Int) := of_decide_eq_true zO0_0
    have q101 : s0_1 < (s0_0.length : Int) := of_decide_eq_true zO0_0
    obtain ⟨ad101, e101, hx101_0⟩ := Kd.at_int HSz5_0 s0_1 p101 q101
    cases e101
    replace hx101_0 := pw_cell_below HB.out hx101_0
    replace p101 := eq_true p101; replace q101 := eq_true q101
    go_enter Try.func68, Try.ntmps68
    go_wp2
    repeat (go_quiet (fail); try go_wp2)
    go_ret
    exact ⟨zt, (zI65 HI0), zY65 HB, zKe HK⟩
   ·rw [if_neg c4] at H
    have c4b0 : decide ((wrap64 (s0_1 + 1)) ≤ (s0_0.length : Int)) = false := decide_eq_false c4; clear c4; simp only [Option.some.injEq, Prod.mk.injEq] at H; obtain ⟨rfl, rfl, rfl⟩ := H
    obtain ⟨ASz6_0, cSz6_0, HGz6, hgz6, HSz6_0⟩ := HI0.out
    have hcz6_0 := cellS65_0 HGz6
    have hcz6_1 := cellS65_1 HGz6
    have hcz6_2 := cellS65_2 HGz6
    have hfz6_1 := blk_frozen HGz6 1
    have hfz6_2 := blk_frozen HGz6 2
    clear HGz6 hgz6
    have p101 : 0 ≤ (s0_1 : Int) := of_decide_eq_true zO0_0
    have q101 : s0_1 < (s0_0.length : Int) := of_decide_eq_true zO0_0
    obtain ⟨ad101, e101, hx101_0⟩ := Kd.at_int HSz6_0 s0_1 p101 q101
    cases e101
    replace hx101_0 := pw_cell_below HB.out hx101_0
    replace p101 := eq_true p101; replace q101 := eq_true q101
    go_enter Try.func68, Try.ntmps68
    go_wp2
    repeat (go_quiet (fail); try go_wp2)
    go_ret
    exact ⟨zt, (zI65 HI0), zY65 HB, zKe HK⟩
  ·rw [if_neg c3] at H
   exact absurd H zO0_2
 ·rw [if_neg c2] at H
  have c2b0 : decide (s0_1 < (s0_0.length : Int)) = false := decide_eq_false c2; clear c2
  by_cases c7 : (wrap64 (s0_1 + 1)) ≤ (s0_0.length : Int)
  ·rw [if_pos c7] at H
   have c7b0 : decide ((wrap64 (s0_1 + 1)) ≤ (s0_0.length : Int)) = true := decide_eq_true c7; clear c7; simp only [Option.some.injEq, Prod.mk.injEq] at H; obtain ⟨rfl, rfl, rfl⟩ := H
   obtain ⟨ASz8_0, cSz8_0, HGz8, hgz8, HSz8_0⟩ := HI0.out
   have hcz8_0 := cellS65_0 HGz8
   have hcz8_1 := cellS65_1 HGz8
   have hcz8_2 := cellS65_2 HGz8
   have hfz8_1 := blk_frozen HGz8 1
   have hfz8_2 := blk_frozen HGz8 2
   clear HGz8 hgz8
   go_enter Try.func68, Try.ntmps68
   go_wp2
   repeat (go_quiet (fail); try go_wp2)
   go_ret
   exact ⟨zt, (zI65 HI0), zY65 HB, zKe HK⟩
  ·rw [if_neg c7] at H
   have c7b0 : decide ((wrap64 (s0_1 + 1)) ≤ (s0_0.length : Int)) = false := decide_eq_false c7; clear c7; simp only [Option.some.injEq, Prod.mk.injEq] at H; obtain ⟨rfl, rfl, rfl⟩ := H
   obtain ⟨ASz9_0, cSz9_0, HGz9, hgz9, HSz9_0⟩ := HI0.out
   have hcz9_0 := cellS65_0 HGz9
   have hcz9_1 := cellS65_1 HGz9
   have hcz9_2 := cellS65_2 HGz9
   have hfz9_1 := blk_frozen HGz9 1
   have hfz9_2 := blk_frozen HGz9 2
   clear HGz9 hgz9
   go_enter Try.func68, Try.ntmps68
   go_wp2
   repeat (go_quiet (fail); try go_wp2)
   go_ret
   exact ⟨zt, (zI65 HI0), zY65 HB, zKe HK⟩


/-! ### spec_l1Cur_pick: function 36 -/
def spec_l1Cur_pick.f (s0_0 : List Int) (s0_1 : Int) (s0_2 : Int) (a1 : Int) : Option (Int × Int × Int) := if a1 ≤ 1 then (some (0, s0_1, s0_2)) else ((spec_l1Cur_next.f s0_0 s0_1 s0_2).bind fun bt102 => (if a1 > 200 then ((spec_l1Cur_next.f s0_0 bt102.2.1 bt102.2.2).bind fun bt105 => (if a1 = 0 then (none) else (some (Int.tmod (wrap64 ((wrap64 (bt102.1 * 256)) + bt105.1)) a1, bt105.2.1, bt105.2.2)))) else (if a1 = 0 then (none) else (some (Int.tmod bt102.1 a1, bt102.2.1, bt102.2.2)))))
set_option maxHeartbeats 8000000 in
set_option maxRecDepth 100000 in
theorem spec_l1Cur_pick.calls (g : Nat) (s0_0 : List Int) (s0_1 : Int) (s0_2 : Int) (a1 : Int) (r1 : Int) (r2 : Int) (r3 : Int) (w0 w : World) (hI : IsS65 w0 w g s0_0 s0_1 s0_2) (hB : Below w0.heap.size w0 w) (h : spec_l1Cur_pick.f s0_0 s0_1 s0_2 a1 = some (r1, r2, r3)) :
  Calls Try.prog 36 #[.pointer (some ⟨g, 0, none⟩), .int .i64 a1] w fun e w' => e = .returned (.int .i64 r1) ∧ IsS65 w0 w' g s0_0 r2 r3 ∧ Below w0.heap.size w0 w' ∧ KeepBut w w' g none := by
 have HI0 := Aside0.mk hI
 have HK := Aside0.mk (KeepBut.refl w g none)
 have HL := Aside0.mk hB.size; clear hI; have HW0 := Aside0.mk hB.size; have HB := Aside0.mk hB; clear hB
 have H : (if a1 ≤ 1 then (some (0, s0_1, s0_2)) else ((spec_l1Cur_next.f s0_0 s0_1 s0_2).bind fun bt102 => (if a1 > 200 then ((spec_l1Cur_next.f s0_0 bt102.2.1 bt102.2.2).bind fun bt105 => (if a1 = 0 then (none) else (some (Int.tmod (wrap64 ((wrap64 (bt102.1 * 256)) + bt105.1)) a1, bt105.2.1, bt105.2.2)))) else (if a1 = 0 then (none) else (some (Int.tmod bt102.1 a1, bt102.2.1, bt102.2.2)))))) = some (r1, r2, r3) := h
 clear h
 by_cases c3 : a1 ≤ 1
 ·rw [if_pos c3] at H
  have c3b0 : decide (a1 ≤ 1) = true := decide_eq_true c3; clear c3; simp only [Option.some.injEq, Prod.mk.injEq] at H; obtain ⟨rfl, rfl, rfl⟩ := H
  go_enter Try.func36, Try.ntmps36
  go_wp2
  go_ret
  exact ⟨zt, (zI65 HI0), zY65 HB, zKe HK⟩
 ·rw [if_neg c3] at H
  have c3b0 : decide (a1 ≤ 1) = false := decide_eq_false c3; clear c3; replace H := Option.bind_eq_some_iff.mp H; obtain ⟨⟨t102, t103, t104⟩, A40, H⟩ := H; (try dsimp only at H); have A4 := Aside0.mk A40; clear A40
  by_cases c5 : a1 > 200
  ·rw [if_pos c5] at H
   have c5b0 : decide (200 < a1) = true := decide_eq_true c5; clear c5; replace H := Option.bind_eq_some_iff.mp H; obtain ⟨⟨t105, t106, t107⟩, A60, H⟩ := H
   replace H : (if a1 = 0 then (none) else (some (Int.tmod (wrap64 ((wrap64 (t102 * 256)) + t105)) a1, t106, t107))) = some (r1, r2, r3) := H
   have A6 := Aside0.mk A60; clear A60
   by_cases c7 : a1 = 0
   ·rw [if_pos c7] at H
    exact absurd H zO0_2
   ·rw [if_neg c7] at H
    have c7b0 : (a1 == 0) = false := beq_eq_false_iff_ne.mpr c7
    have c7b1 : (a1 != 0) = true := bne_iff_ne.mpr c7
    simp only [Option.some.injEq, Prod.mk.injEq] at H; obtain ⟨rfl, rfl, rfl⟩ := H
    go_enter Try.func36, Try.ntmps36
    go_wp2_with (first | ((with_reducible refine gate_callee (f := 68) rfl ?_); refine zG (some 9) Try.func68 #[.pointer (some ⟨g, 0, none⟩)] ?_; (with_reducible refine (spec_l1Cur_next.calls g s0_0 s0_1 s0_2 t102 t103 t104 w0 _ ?side1 ?side2 A4.out).mono ?_); (case side1 => exact zI65 HI0); (case side2 => exact zY65 HB); rintro e w8 ⟨rfl, hi, hb, hk⟩; refine ⟨_, rfl, ?_⟩; replace HK := zKt HK hk; replace HB := Aside0.mk hb; replace HI0 := Aside0.mk hi; clear hb hk hi) | ((with_reducible refine gate_callee (f := 68) rfl ?_); refine zG (some 15) Try.func68 #[.pointer (some ⟨g, 0, none⟩)] ?_; (with_reducible refine (spec_l1Cur_next.calls g s0_0 t103 t104 t105 t106 t107 w0 _ ?side1 ?side2 A6.out).mono ?_); (case side1 => exact zI65 HI0); (case side2 => exact zY65 HB); rintro e w9 ⟨rfl, hi, hb, hk⟩; refine ⟨_, rfl, ?_⟩; replace HK := zKt HK hk; replace HB := Aside0.mk hb; replace HI0 := Aside0.mk hi; clear hb hk hi))
    go_ret
    exact ⟨zt, (zI65 HI0), zY65 HB, zKe HK⟩
  ·rw [if_neg c5] at H
   have c5b0 : decide (200 < a1) = false := decide_eq_false c5; clear c5
   by_cases c10 : a1 = 0
   ·rw [if_pos c10] at H
    exact absurd H zO0_2
   ·rw [if_neg c10] at H
    have c10b0 : (a1 == 0) = false := beq_eq_false_iff_ne.mpr c10
    have c10b1 : (a1 != 0) = true := bne_iff_ne.mpr c10
    simp only [Option.some.injEq, Prod.mk.injEq] at H; obtain ⟨rfl, rfl, rfl⟩ := H
    go_enter Try.func36, Try.ntmps36
    go_wp2_with (first | ((with_reducible refine gate_callee (f := 68) rfl ?_); refine zG (some 9) Try.func68 #[.pointer (some ⟨g, 0, none⟩)] ?_; (with_reducible refine (spec_l1Cur_next.calls g s0_0 s0_1 s0_2 t102 t103 t104 w0 _ ?side1 ?side2 A4.out).mono ?_); (case side1 => exact zI65 HI0); (case side2 => exact zY65 HB); rintro e w11 ⟨rfl, hi, hb, hk⟩; refine ⟨_, rfl, ?_⟩; replace HK := zKt HK hk; replace HB := Aside0.mk hb; replace HI0 := Aside0.mk hi; clear hb hk hi))
    go_ret
    exact ⟨zt, (zI65 HI0), zY65 HB, zKe HK⟩


/-! ### spec_l1Cur_one: function 32 -/
def spec_l1Cur_one.f (s0_0 : List Int) (s0_1 : Int) (s0_2 : Int) (a1 : Int) : Option (Bool × Int × Int) := (spec_l1Cur_pick.f s0_0 s0_1 s0_2 a1).bind fun bt108 => (some ((bt108.1 == 0), bt108.2.1, bt108.2.2))
set_option maxHeartbeats 8000000 in
set_option maxRecDepth 100000 in
theorem spec_l1Cur_one.calls (g : Nat) (s0_0 : List Int) (s0_1 : Int) (s0_2 : Int) (a1 : Int) (r1 : Bool) (r2 : Int) (r3 : Int) (w0 w : World) (hI : IsS65 w0 w g s0_0 s0_1 s0_2) (hB : Below w0.heap.size w0 w) (h : spec_l1Cur_one.f s0_0 s0_1 s0_2 a1 = some (r1, r2, r3)) :
  Calls Try.prog 32 #[.pointer (some ⟨g, 0, none⟩), .int .i64 a1] w fun e w' => e = .returned (.bool r1) ∧ IsS65 w0 w' g s0_0 r2 r3 ∧ Below w0.heap.size w0 w' ∧ KeepBut w w' g none := by
 have HI0 := Aside0.mk hI
 have HK := Aside0.mk (KeepBut.refl w g none)
 have HL := Aside0.mk hB.size; clear hI; have HW0 := Aside0.mk hB.size; have HB := Aside0.mk hB; clear hB
 have H : ((spec_l1Cur_pick.f s0_0 s0_1 s0_2 a1).bind fun bt108 => (some ((bt108.1 == 0), bt108.2.1, bt108.2.2))) = some (r1, r2, r3) := h
 clear h; replace H := Option.bind_eq_some_iff.mp H; obtain ⟨⟨t108, t109, t110⟩, A30, H⟩ := H
 replace H : (some ((t108 == 0), t109, t110)) = some (r1, r2, r3) := H
 have A3 := Aside0.mk A30; clear A30; simp only [Option.some.injEq, Prod.mk.injEq] at H; obtain ⟨rfl, rfl, rfl⟩ := H
 go_enter Try.func32, Try.ntmps32
 go_wp2_with (first | ((with_reducible refine gate_callee (f := 36) rfl ?_); refine zG (some 7) Try.func36 #[.pointer (some ⟨g, 0, none⟩), .int .i64 a1] ?_; (with_reducible refine (spec_l1Cur_pick.calls g s0_0 s0_1 s0_2 a1 t108 t109 t110 w0 _ ?side1 ?side2 A3.out).mono ?_); (case side1 => exact zI65 HI0); (case side2 => exact zY65 HB); rintro e w4 ⟨rfl, hi, hb, hk⟩; refine ⟨_, rfl, ?_⟩; replace HK := zKt HK hk; replace HB := Aside0.mk hb; replace HI0 := Aside0.mk hi; clear hb hk hi))
 go_ret
 exact ⟨zt, (zI65 HI0), zY65 HB, zKe HK⟩


/-! ### spec_l1Cur_among: function 34 -/
def spec_l1Cur_among.f (s0_0 : List Int) (s0_1 : Int) (s0_2 : Int) (l1 : List Int) : Option (Int × Int × Int) := (spec_l1Cur_pick.f s0_0 s0_1 s0_2 (l1.length : Int)).bind fun bt111 => (if 0 ≤ bt111.1 then (if bt111.1 < (l1.length : Int) then (some (rd l1 bt111.1, bt111.2.1, bt111.2.2)) else (none)) else (none))
set_option maxHeartbeats 8000000 in
set_option maxRecDepth 100000 in
theorem spec_l1Cur_among.calls (g : Nat) (s0_0 : List Int) (s0_1 : Int) (s0_2 : Int) (A1 : Option Addr) (c1 : Nat) (l1 : List Int) (r1 : Int) (r2 : Int) (r3 : Int) (w0 w : World) (hI : IsS65 w0 w g s0_0 s0_1 s0_2) (hB : Below w0.heap.size w0 w) (hr1 : Kd.C (Kd.int .i64) w A1 l1.length l1) (hc1 : l1.length ≤ c1) (hf1 : ∀ ad, A1 = some ad → 0 < l1.length → ad.block ≠ g) (h : spec_l1Cur_among.f s0_0 s0_1 s0_2 l1 = some (r1, r2, r3)) :
  Calls Try.prog 34 #[.pointer (some ⟨g, 0, none⟩), .slice A1 l1.length c1] w fun e w' => e = .returned (.int .i64 r1) ∧ IsS65 w0 w' g s0_0 r2 r3 ∧ Below w0.heap.size w0 w' ∧ KeepBut w w' g none := by
 have HR1 := Aside0.mk hr1; have HC1 := Aside0.mk hc1; clear hr1 hc1; have HI0 := Aside0.mk hI
 have HK := Aside0.mk (KeepBut.refl w g none)
 have HL := Aside0.mk hB.size; clear hI; have HW0 := Aside0.mk hB.size; have HB := Aside0.mk hB; clear hB
 have H : ((spec_l1Cur_pick.f s0_0 s0_1 s0_2 (l1.length : Int)).bind fun bt111 => (if 0 ≤ bt111.1 then (if bt111.1 < (l1.length : Int) then (some (rd l1 bt111.1, bt111.2.1, bt111.2.2)) else (none)) else (none))) = some (r1, r2, r3) := h
 clear h; replace H := Option.bind_eq_some_iff.mp H; obtain ⟨⟨t111, t112, t113⟩, A30, H⟩ := H
 replace H : (if 0 ≤ t111 then (if t111 < (l1.length : Int) then (some (rd l1 t111, t112, t113)) else (none)) else (none)) = some (r1, r2, r3) := H
 have A3 := Aside0.mk A30; clear A30
 by_cases c4 : 0 ≤ t111
 ·rw [if_pos c4] at H
  have c4b0 : decide (0 ≤ t111) = true := decide_eq_true c4; clear c4
  by_cases c5 : t111 < (l1.length : Int)
  ·rw [if_pos c5] at H
   have c5b0 : decide (t111 < (l1.length : Int)) = true := decide_eq_true c5; clear c5; simp only [Option.some.injEq, Prod.mk.injEq] at H; obtain ⟨rfl, rfl, rfl⟩ := H
   go_enter Try.func34, Try.ntmps34
   go_wp2_with (first | ((with_reducible refine gate_callee (f := 36) rfl ?_); refine zG (some 9) Try.func36 #[.pointer (some ⟨g, 0, none⟩), .int .i64 (l1.length : Int)] ?_; (with_reducible refine (spec_l1Cur_pick.calls g s0_0 s0_1 s0_2 (l1.length : Int) t111 t112 t113 w0 _ ?side1 ?side2 A3.out).mono ?_); (case side1 => exact zI65 HI0); (case side2 => exact zY65 HB); rintro e w6 ⟨rfl, hi, hb, hk⟩; refine ⟨_, rfl, ?_⟩; replace HK := zKt HK hk; replace HB := Aside0.mk hb; replace HI0 := Aside0.mk hi; clear hb hk hi; have p114 : 0 ≤ (t111 : Int) := of_decide_eq_true zO0_0; have q114 : t111 < (l1.length : Int) := of_decide_eq_true zO0_0; obtain ⟨ad114, e114, hx114_0⟩ := Kd.at_int HR1.out t111 p114 q114; cases e114; replace hx114_0 := keep_cell HK.out hx114_0 (by first | (rw [add_block]; exact hf1 _ rfl (by omega)) | exact hf1 _ rfl (by omega) | exact hf1 ad114 rfl (by omega)); replace p114 := eq_true p114; replace q114 := eq_true q114))
   go_ret
   exact ⟨zt, (zI65 HI0), zY65 HB, zKe HK⟩
  ·rw [if_neg c5] at H
   exact absurd H zO0_2
 ·rw [if_neg c4] at H
  exact absurd H zO0_2


/-! ### spec_l1Cur_sureLadders: function 67 -/
def spec_l1Cur_sureLadders.f (s0_0 : List Int) (s0_1 : Int) (s0_2 : Int) : Option (Int × Int × Int × Int × Int) := (spec_l1Cur_pick.f s0_0 s0_1 s0_2 6).bind fun bt116 => (if bt116.1 = 0 then (some (56, 105, 42, bt116.2.1, bt116.2.2)) else (if bt116.1 = 1 then ((spec_l1Cur_pick.f s0_0 bt116.2.1 bt116.2.2 9).bind fun bt119 => ((spec_l1Cur_among.f s0_0 bt119.2.1 bt119.2.2 (([5, 9, 16, 35] : List Int))).bind fun bt125 => ((spec_l1Cur_among.f s0_0 bt125.2.1 bt125.2.2 (([5, 9, 16, 35] : List Int))).bind fun bt131 => (some (wrap64 (12 * (wrap64 (1 + bt119.1))), wrap64 (bt125.1 * (wrap64 (1 + bt119.1))), wrap64 (bt131.1 * (wrap64 (1 + bt119.1))), bt131.2.1, bt131.2.2))))) else ((spec_l1Cur_pick.f s0_0 bt116.2.1 bt116.2.2 20).bind fun bt134 => ((spec_l1Cur_pick.f s0_0 bt134.2.1 bt134.2.2 20).bind fun bt137 => ((spec_l1Cur_pick.f s0_0 bt137.2.1 bt137.2.2 20).bind fun bt140 => (some (wrap64 (1 + bt134.1), wrap64 (1 + bt137.1), wrap64 (1 + bt140.1), bt140.2.1, bt140.2.2)))))))
set_option maxHeartbeats 8000000 in
set_option maxRecDepth 100000 in
theorem spec_l1Cur_sureLadders.calls (g : Nat) (s0_0 : List Int) (s0_1 : Int) (s0_2 : Int) (r1 : Int) (r2 : Int) (r3 : Int) (r4 : Int) (r5 : Int) (w0 w : World) (hI : IsS65 w0 w g s0_0 s0_1 s0_2) (hB : Below w0.heap.size w0 w) (h : spec_l1Cur_sureLadders.f s0_0 s0_1 s0_2 = some (r1, r2, r3, r4, r5)) :
  Calls Try.prog 67 #[.pointer (some ⟨g, 0, none⟩)] w fun e w' => e = .returned (.agg #[.int .i64 r1, .int .i64 r2, .int .i64 r3]) ∧ IsS65 w0 w' g s0_0 r4 r5 ∧ Below w0.heap.size w0 w' ∧ KeepBut w w' g none := by
 have hu25 := Try.underlying25; have HI0 := Aside0.mk hI
 have HK := Aside0.mk (KeepBut.refl w g none)
 have HL := Aside0.mk hB.size; clear hI; have HW0 := Aside0.mk hB.size; have HB := Aside0.mk hB; clear hB
 have H : ((spec_l1Cur_pick.f s0_0 s0_1 s0_2 6).bind fun bt116 => (if bt116.1 = 0 then (some (56, 105, 42, bt116.2.1, bt116.2.2)) else (if bt116.1 = 1 then ((spec_l1Cur_pick.f s0_0 bt116.2.1 bt116.2.2 9).bind fun bt119 => ((spec_l1Cur_among.f s0_0 bt119.2.1 bt119.2.2 (([5, 9, 16, 35] : List Int))).bind fun bt125 => ((spec_l1Cur_among.f s0_0 bt125.2.1 bt125.2.2 (([5, 9, 16, 35] : List Int))).bind fun bt131 => (some (wrap64 (12 * (wrap64 (1 + bt119.1))), wrap64 (bt125.1 * (wrap64 (1 + bt119.1))), wrap64 (bt131.1 * (wrap64 (1 + bt119.1))), bt131.2.1, bt131.2.2))))) else ((spec_l1Cur_pick.f s0_0 bt116.2.1 bt116.2.2 20).bind fun bt134 => ((spec_l1Cur_pick.f s0_0 bt134.2.1 bt134.2.2 20).bind fun bt137 => ((spec_l1Cur_pick.f s0_0 bt137.2.1 bt137.2.2 20).bind fun bt140 => (some (wrap64 (1 + bt134.1), wrap64 (1 + bt137.1), wrap64 (1 + bt140.1), bt140.2.1, bt140.2.2)))))))) = some (r1, r2, r3, r4, r5) := h
 clear h; replace H := Option.bind_eq_some_iff.mp H; obtain ⟨⟨t116, t117, t118⟩, A20, H⟩ := H; (try dsimp only at H); have A2 := Aside0.mk A20; clear A20
 by_cases c3 : t116 = 0
 ·rw [if_pos c3] at H
  have c3b0 : (t116 == 0) = true := beq_iff_eq.mpr c3
  have c3b1 : (t116 != 0) = false := bne_eq_false_iff_eq.mpr c3
  clear c3; simp only [Option.some.injEq, Prod.mk.injEq] at H; obtain ⟨rfl, rfl, rfl, rfl, rfl⟩ := H
  go_enter Try.func67, Try.ntmps67
  go_wp2_with (first | ((with_reducible refine gate_dst (N := 2) rfl ?_); refine zE 2 #[.int .i64 0, .int .i64 0, .int .i64 0] 25 ?_; intro gb115 hg w4 hbox hb; have BK115 := Aside0.mk (hbox); have GW115 := zKg HK hg; have GE115 := Aside0.mk (Nat.le_trans HW0.out GW115.out); have NB0_115 := zL65 HI0 hg; have NB115_0 := zR65 HI0 hg; replace HI0 := zJ65 HI0 hb; replace HK := zKb HK hb; replace HB := zH65 HB hb; clear hb hbox hg) | ((with_reducible refine gate_callee (f := 36) rfl ?_); refine zG (some 5) Try.func36 #[.pointer (some ⟨g, 0, none⟩), .int .i64 6] ?_; (with_reducible refine (spec_l1Cur_pick.calls g s0_0 s0_1 s0_2 6 t116 t117 t118 w0 _ ?side1 ?side2 A2.out).mono ?_); (case side1 => exact zI65 HI0); (case side2 => exact zY65 HB); rintro e w5 ⟨rfl, hi, hb, hk⟩; refine ⟨_, rfl, ?_⟩; replace BK115 := zKB BK115 hk; replace HK := zKt HK hk; replace HB := Aside0.mk hb; replace HI0 := Aside0.mk hi; clear hb hk hi; have hnb6 := NB115_0.out; have hnc6 := NB0_115.out; obtain ⟨_, _, _, _, _, _⟩ := zc3 BK115))
  refine bodyPost_ret (results_cell_row rfl _ _ gb115 25 #[.int .i64 56, .int .i64 105, .int .i64 42] (0, 0) _ rfl (zw BK115) Try.underlying25 rfl (by kernel_rfl)) rfl ?_
  exact ⟨zt, (zI65 HI0), zY65 HB, zKe HK⟩
 ·rw [if_neg c3] at H
  have c3b0 : (t116 == 0) = false := beq_eq_false_iff_ne.mpr c3
  have c3b1 : (t116 != 0) = true := bne_iff_ne.mpr c3
  by_cases c8 : t116 = 1
  ·rw [if_pos c8] at H
   have c8b0 : (t116 == 1) = true := beq_iff_eq.mpr c8
   have c8b1 : (t116 != 1) = false := bne_eq_false_iff_eq.mpr c8
   clear c8; replace H := Option.bind_eq_some_iff.mp H; obtain ⟨⟨t119, t120, t121⟩, A90, H⟩ := H; (try dsimp only at H); have A9 := Aside0.mk A90; clear A90
   obtain ⟨y122, hy122⟩ : ∃ y_ : List Int, y_ = (([5, 9, 16, 35] : List Int)) := ⟨_, rfl⟩
   replace H : ((spec_l1Cur_among.f s0_0 t120 t121 y122).bind fun bt125 => ((spec_l1Cur_among.f s0_0 bt125.2.1 bt125.2.2 (([5, 9, 16, 35] : List Int))).bind fun bt131 => (some (wrap64 (12 * (wrap64 (1 + t119))), wrap64 (bt125.1 * (wrap64 (1 + t119))), wrap64 (bt131.1 * (wrap64 (1 + t119))), bt131.2.1, bt131.2.2)))) = some (r1, r2, r3, r4, r5) := by first | (rw [hy122]; with_reducible exact H) | (have H2_ := (Option.bind_some _ _).symm.trans H; rw [hy122]; with_reducible exact H2_) | (have H2_ := (Option.bind_some _ _).symm.trans H; with_reducible exact H2_) | with_reducible exact H | (rw [hy122]; exact H) | exact H
   have Ny122 := Aside0.mk hy122; clear hy122; replace H := Option.bind_eq_some_iff.mp H; obtain ⟨⟨t125, t126, t127⟩, A100, H⟩ := H; (try dsimp only at H); have A10 := Aside0.mk A100; clear A100
   obtain ⟨y128, hy128⟩ : ∃ y_ : List Int, y_ = (([5, 9, 16, 35] : List Int)) := ⟨_, rfl⟩
   replace H : ((spec_l1Cur_among.f s0_0 t126 t127 y128).bind fun bt131 => (some (wrap64 (12 * (wrap64 (1 + t119))), wrap64 (t125 * (wrap64 (1 + t119))), wrap64 (bt131.1 * (wrap64 (1 + t119))), bt131.2.1, bt131.2.2))) = some (r1, r2, r3, r4, r5) := by first | (rw [hy128]; with_reducible exact H) | (have H2_ := (Option.bind_some _ _).symm.trans H; rw [hy128]; with_reducible exact H2_) | (have H2_ := (Option.bind_some _ _).symm.trans H; with_reducible exact H2_) | with_reducible exact H | (rw [hy128]; exact H) | exact H
   have Ny128 := Aside0.mk hy128; clear hy128; replace H := Option.bind_eq_some_iff.mp H; obtain ⟨⟨t131, t132, t133⟩, A110, H⟩ := H
   replace H : (some (wrap64 (12 * (wrap64 (1 + t119))), wrap64 (t125 * (wrap64 (1 + t119))), wrap64 (t131 * (wrap64 (1 + t119))), t132, t133)) = some (r1, r2, r3, r4, r5) := H
   have A11 := Aside0.mk A110; clear A110; simp only [Option.some.injEq, Prod.mk.injEq] at H; obtain ⟨rfl, rfl, rfl, rfl, rfl⟩ := H
   go_enter Try.func67, Try.ntmps67
   go_wp2_with (first | ((with_reducible refine gate_dst (N := 2) rfl ?_); refine zE 2 #[.int .i64 0, .int .i64 0, .int .i64 0] 25 ?_; intro gb115 hg w12 hbox hb; have BK115 := Aside0.mk (hbox); have GW115 := zKg HK hg; have GE115 := Aside0.mk (Nat.le_trans HW0.out GW115.out); have NB0_115 := zL65 HI0 hg; have NB115_0 := zR65 HI0 hg; replace HI0 := zJ65 HI0 hb; replace HK := zKb HK hb; replace HB := zH65 HB hb; clear hb hbox hg) | ((with_reducible refine gate_callee (f := 36) rfl ?_); refine zG (some 5) Try.func36 #[.pointer (some ⟨g, 0, none⟩), .int .i64 6] ?_; (with_reducible refine (spec_l1Cur_pick.calls g s0_0 s0_1 s0_2 6 t116 t117 t118 w0 _ ?side1 ?side2 A2.out).mono ?_); (case side1 => exact zI65 HI0); (case side2 => exact zY65 HB); rintro e w13 ⟨rfl, hi, hb, hk⟩; refine ⟨_, rfl, ?_⟩; replace BK115 := zKB BK115 hk; replace HK := zKt HK hk; replace HB := Aside0.mk hb; replace HI0 := Aside0.mk hi; clear hb hk hi) | ((with_reducible refine gate_callee (f := 36) rfl ?_); refine zG (some 12) Try.func36 #[.pointer (some ⟨g, 0, none⟩), .int .i64 9] ?_; (with_reducible refine (spec_l1Cur_pick.calls g s0_0 t117 t118 9 t119 t120 t121 w0 _ ?side1 ?side2 A9.out).mono ?_); (case side1 => exact zI65 HI0); (case side2 => exact zY65 HB); rintro e w14 ⟨rfl, hi, hb, hk⟩; refine ⟨_, rfl, ?_⟩; replace BK115 := zKB BK115 hk; replace HK := zKt HK hk; replace HB := Aside0.mk hb; replace HI0 := Aside0.mk hi; clear hb hk hi) | ((with_reducible refine gate_dst (N := 17) rfl ?_); refine Kd.R_lit (Kd.int .i64) _ 3 ?hg (N := 17) ?hd (xs := ([5, 9, 16, 35] : List Int)) (inner := [.int .i64 5, .int .i64 9, .int .i64 16, .int .i64 35]) (ok := fun _ => True) (okp := fun _ => True) ?hr ?hp (fun _ hk => hk) trivial (Below.refl _ _) (Nat.le_refl _) zO0_2 ?_; (case hd => rfl); (case hg => rfl); (case hr => first | (go_simp; done) | (go_simp; rfl)); (case hp => exact (Reps.one (show Kd.M (Kd.int .i64) _ _ _ 5 [.int .i64 5] from rfl) (Reps.one (show Kd.M (Kd.int .i64) _ _ _ 9 [.int .i64 9] from rfl) (Reps.one (show Kd.M (Kd.int .i64) _ _ _ 16 [.int .i64 16] from rfl) (Reps.one (show Kd.M (Kd.int .i64) _ _ _ 35 [.int .i64 35] from rfl) (Reps.none _ _)))))); intro v123 w15 ho16 hb hg_ hnew_; clear hg_ hnew_; (first | rw [← Ny122.out] at ho16 | (simp only [Int.reduceToNat] at ho16; rw [← Ny122.out] at ho16)); have HO124 := Aside0.mk (Kd.R_lower ho16 (keep_size (w := w) (g := g) (row := none) (zKe HK))); replace HI0 := zJ65 HI0 hb; replace BK115 := zb BK115 hb; replace HK := zKb HK hb; replace HB := zH65 HB hb; clear hb ho16; obtain ⟨Ao17, co17, eo17⟩ := Kd.R_slice HO124.out; subst eo17) | ((with_reducible refine gate_callee (f := 34) rfl ?_); refine zG (some 18) Try.func34 #[.pointer (some ⟨g, 0, none⟩), .slice Ao17 y122.length co17] ?_; (with_reducible refine (spec_l1Cur_among.calls g s0_0 t120 t121 _ _ y122 t125 t126 t127 w0 _ ?side1 ?side2 ?side3 ?side4 ?side5 A10.out).mono ?_); (case side1 => exact zI65 HI0); (case side2 => exact zY65 HB); (case side3 => repeat (first | exact (Kd.R_reads' HO124.out).2.2 | (with_reducible refine Kd.C_alloc ?_ _) | (with_reducible refine Kd.C_drewN ?_ _) | (with_reducible refine Kd.C_drew ?_))); (case side4 => exact (Kd.R_reads' HO124.out).2.1); (case side5 => exact far_slice (IsS65.own_ne HI0.out HO124.out (by decide))); rintro e w18 ⟨rfl, hi, hb, hk⟩; refine ⟨_, rfl, ?_⟩; have n1_ := Aside0.mk (Kd.R_mono (Kd.R_keep (IsS65.apart (show IsS65 w0 _ g s0_0 t120 t121 from (zI65 HI0)) (zs HO124) (by decide)) hk (fun _ h => h.2)) (fun _ h => h.1)); replace BK115 := zKB BK115 hk; replace HK := zKt HK hk; replace HB := Aside0.mk hb; replace HI0 := Aside0.mk hi; clear HO124; have HO124 := n1_; clear n1_; clear hb hk hi) | ((with_reducible refine gate_dst (N := 22) rfl ?_); refine Kd.R_lit (Kd.int .i64) _ 3 ?hg (N := 22) ?hd (xs := ([5, 9, 16, 35] : List Int)) (inner := [.int .i64 5, .int .i64 9, .int .i64 16, .int .i64 35]) (ok := fun _ => True) (okp := fun _ => True) ?hr ?hp (fun _ hk => hk) trivial (Below.refl _ _) (Nat.le_refl _) zO0_2 ?_; (case hd => rfl); (case hg => rfl); (case hr => first | (go_simp; done) | (go_simp; rfl)); (case hp => exact (Reps.one (show Kd.M (Kd.int .i64) _ _ _ 5 [.int .i64 5] from rfl) (Reps.one (show Kd.M (Kd.int .i64) _ _ _ 9 [.int .i64 9] from rfl) (Reps.one (show Kd.M (Kd.int .i64) _ _ _ 16 [.int .i64 16] from rfl) (Reps.one (show Kd.M (Kd.int .i64) _ _ _ 35 [.int .i64 35] from rfl) (Reps.none _ _)))))); intro v129 w19 ho20 hb hg_ hnew_; clear hg_ hnew_; (first | rw [← Ny128.out] at ho20 | (simp only [Int.reduceToNat] at ho20; rw [← Ny128.out] at ho20)); have n0_ := Aside0.mk (Kd.R_elder' (zs HO124) (Kd.R_base ho20) hb); have HO130 := Aside0.mk (Kd.R_lower (Kd.R_new' ho20 (Kd.R_lt (zs HO124))) (keep_size (w := w) (g := g) (row := none) (zKe HK))); replace HI0 := zJ65 HI0 hb; replace BK115 := zb BK115 hb; replace HK := zKb HK hb; replace HB := zH65 HB hb; clear HO124; have HO124 := n0_; clear n0_; clear hb ho20; obtain ⟨Ao21, co21, eo21⟩ := Kd.R_slice HO130.out; subst eo21) | ((with_reducible refine gate_callee (f := 34) rfl ?_); refine zG (some 23) Try.func34 #[.pointer (some ⟨g, 0, none⟩), .slice Ao21 y128.length co21] ?_; (with_reducible refine (spec_l1Cur_among.calls g s0_0 t126 t127 _ _ y128 t131 t132 t133 w0 _ ?side1 ?side2 ?side3 ?side4 ?side5 A11.out).mono ?_); (case side1 => exact zI65 HI0); (case side2 => exact zY65 HB); (case side3 => repeat (first | exact (Kd.R_reads' HO130.out).2.2 | (with_reducible refine Kd.C_alloc ?_ _) | (with_reducible refine Kd.C_drewN ?_ _) | (with_reducible refine Kd.C_drew ?_))); (case side4 => exact (Kd.R_reads' HO130.out).2.1); (case side5 => exact far_slice (IsS65.own_ne HI0.out HO130.out (by decide))); rintro e w22 ⟨rfl, hi, hb, hk⟩; refine ⟨_, rfl, ?_⟩; have n1_ := Aside0.mk (Kd.R_mono (Kd.R_keep (IsS65.apart (show IsS65 w0 _ g s0_0 t126 t127 from (zI65 HI0)) (zs HO124) (by decide)) hk (fun _ h => h.2)) (fun _ h => h.1)); have n2_ := Aside0.mk (Kd.R_mono (Kd.R_keep (IsS65.apart (show IsS65 w0 _ g s0_0 t126 t127 from (zI65 HI0)) (zs HO130) (by decide)) hk (fun _ h => h.2)) (fun _ h => h.1)); replace BK115 := zKB BK115 hk; replace HK := zKt HK hk; replace HB := Aside0.mk hb; replace HI0 := Aside0.mk hi; clear HO124; have HO124 := n1_; clear n1_; clear HO130; have HO130 := n2_; clear n2_; clear hb hk hi; have hnb23 := NB115_0.out; have hnc23 := NB0_115.out; obtain ⟨_, _, _, _, _, _⟩ := zc3 BK115))
   refine bodyPost_ret (results_cell_row rfl _ _ gb115 25 #[.int .i64 (wrap64 (12 * (wrap64 (1 + t119)))), .int .i64 (wrap64 (t125 * (wrap64 (1 + t119)))), .int .i64 (wrap64 (t131 * (wrap64 (1 + t119))))] (0, 0) _ rfl (zw BK115) Try.underlying25 rfl (by kernel_rfl)) rfl ?_
   exact ⟨zt, (zI65 HI0), zY65 HB, zKe HK⟩
  ·rw [if_neg c8] at H
   have c8b0 : (t116 == 1) = false := beq_eq_false_iff_ne.mpr c8
   have c8b1 : (t116 != 1) = true := bne_iff_ne.mpr c8
   replace H := Option.bind_eq_some_iff.mp H; obtain ⟨⟨t134, t135, t136⟩, A250, H⟩ := H; (try dsimp only at H); have A25 := Aside0.mk A250; clear A250; replace H := Option.bind_eq_some_iff.mp H; obtain ⟨⟨t137, t138, t139⟩, A260, H⟩ := H; (try dsimp only at H); have A26 := Aside0.mk A260; clear A260; replace H := Option.bind_eq_some_iff.mp H; obtain ⟨⟨t140, t141, t142⟩, A270, H⟩ := H
   replace H : (some (wrap64 (1 + t134), wrap64 (1 + t137), wrap64 (1 + t140), t141, t142)) = some (r1, r2, r3, r4, r5) := H
   have A27 := Aside0.mk A270; clear A270; simp only [Option.some.injEq, Prod.mk.injEq] at H; obtain ⟨rfl, rfl, rfl, rfl, rfl⟩ := H
   go_enter Try.func67, Try.ntmps67
   go_wp2_with (first | ((with_reducible refine gate_dst (N := 2) rfl ?_); refine zE 2 #[.int .i64 0, .int .i64 0, .int .i64 0] 25 ?_; intro gb115 hg w28 hbox hb; have BK115 := Aside0.mk (hbox); have GW115 := zKg HK hg; have GE115 := Aside0.mk (Nat.le_trans HW0.out GW115.out); have NB0_115 := zL65 HI0 hg; have NB115_0 := zR65 HI0 hg; replace HI0 := zJ65 HI0 hb; replace HK := zKb HK hb; replace HB := zH65 HB hb; clear hb hbox hg) | ((with_reducible refine gate_callee (f := 36) rfl ?_); refine zG (some 5) Try.func36 #[.pointer (some ⟨g, 0, none⟩), .int .i64 6] ?_; (with_reducible refine (spec_l1Cur_pick.calls g s0_0 s0_1 s0_2 6 t116 t117 t118 w0 _ ?side1 ?side2 A2.out).mono ?_); (case side1 => exact zI65 HI0); (case side2 => exact zY65 HB); rintro e w29 ⟨rfl, hi, hb, hk⟩; refine ⟨_, rfl, ?_⟩; replace BK115 := zKB BK115 hk; replace HK := zKt HK hk; replace HB := Aside0.mk hb; replace HI0 := Aside0.mk hi; clear hb hk hi) | ((with_reducible refine gate_callee (f := 36) rfl ?_); refine zG (some 28) Try.func36 #[.pointer (some ⟨g, 0, none⟩), .int .i64 20] ?_; (with_reducible refine (spec_l1Cur_pick.calls g s0_0 t117 t118 20 t134 t135 t136 w0 _ ?side1 ?side2 A25.out).mono ?_); (case side1 => exact zI65 HI0); (case side2 => exact zY65 HB); rintro e w30 ⟨rfl, hi, hb, hk⟩; refine ⟨_, rfl, ?_⟩; replace BK115 := zKB BK115 hk; replace HK := zKt HK hk; replace HB := Aside0.mk hb; replace HI0 := Aside0.mk hi; clear hb hk hi) | ((with_reducible refine gate_callee (f := 36) rfl ?_); refine zG (some 31) Try.func36 #[.pointer (some ⟨g, 0, none⟩), .int .i64 20] ?_; (with_reducible refine (spec_l1Cur_pick.calls g s0_0 t135 t136 20 t137 t138 t139 w0 _ ?side1 ?side2 A26.out).mono ?_); (case side1 => exact zI65 HI0); (case side2 => exact zY65 HB); rintro e w31 ⟨rfl, hi, hb, hk⟩; refine ⟨_, rfl, ?_⟩; replace BK115 := zKB BK115 hk; replace HK := zKt HK hk; replace HB := Aside0.mk hb; replace HI0 := Aside0.mk hi; clear hb hk hi) | ((with_reducible refine gate_callee (f := 36) rfl ?_); refine zG (some 34) Try.func36 #[.pointer (some ⟨g, 0, none⟩), .int .i64 20] ?_; (with_reducible refine (spec_l1Cur_pick.calls g s0_0 t138 t139 20 t140 t141 t142 w0 _ ?side1 ?side2 A27.out).mono ?_); (case side1 => exact zI65 HI0); (case side2 => exact zY65 HB); rintro e w32 ⟨rfl, hi, hb, hk⟩; refine ⟨_, rfl, ?_⟩; replace BK115 := zKB BK115 hk; replace HK := zKt HK hk; replace HB := Aside0.mk hb; replace HI0 := Aside0.mk hi; clear hb hk hi; have hnb33 := NB115_0.out; have hnc33 := NB0_115.out; obtain ⟨_, _, _, _, _, _⟩ := zc3 BK115))
   refine bodyPost_ret (results_cell_row rfl _ _ gb115 25 #[.int .i64 (wrap64 (1 + t134)), .int .i64 (wrap64 (1 + t137)), .int .i64 (wrap64 (1 + t140))] (0, 0) _ rfl (zw BK115) Try.underlying25 rfl (by kernel_rfl)) rfl ?_
   exact ⟨zt, (zI65 HI0), zY65 HB, zKe HK⟩


/-! ### spec_l1Cur_ladders: function 33 -/
def spec_l1Cur_ladders.f (s0_0 : List Int) (s0_1 : Int) (s0_2 : Int) : Option (Int × Int × Int × Int × Int) := (spec_l1Cur_sureLadders.f s0_0 s0_1 s0_2).bind fun bt144 => ((spec_l1Cur_pick.f s0_0 bt144.2.2.2.1 bt144.2.2.2.2 20).bind fun bt150 => (if bt150.1 = 0 then ((spec_l1Cur_among.f s0_0 bt150.2.1 bt150.2.2 (([(-1), 0, 1, 1000, 1001, 4611686018427387904] : List Int))).bind fun bt156 => (some (bt156.1, bt144.2.1, bt144.2.2.1, bt156.2.1, bt156.2.2))) else (if bt150.1 = 1 then ((spec_l1Cur_among.f s0_0 bt150.2.1 bt150.2.2 (([(-1), 0, 1, 1000, 1001, 4611686018427387904] : List Int))).bind fun bt162 => (some (bt144.1, bt162.1, bt144.2.2.1, bt162.2.1, bt162.2.2))) else (if bt150.1 = 2 then ((spec_l1Cur_among.f s0_0 bt150.2.1 bt150.2.2 (([(-1), 0, 1, 1000, 1001, 4611686018427387904] : List Int))).bind fun bt168 => (some (bt144.1, bt144.2.1, bt168.1, bt168.2.1, bt168.2.2))) else (some (bt144.1, bt144.2.1, bt144.2.2.1, bt150.2.1, bt150.2.2))))))
set_option maxHeartbeats 8000000 in
set_option maxRecDepth 100000 in
theorem spec_l1Cur_ladders.calls (g : Nat) (s0_0 : List Int) (s0_1 : Int) (s0_2 : Int) (r1 : Int) (r2 : Int) (r3 : Int) (r4 : Int) (r5 : Int) (w0 w : World) (hI : IsS65 w0 w g s0_0 s0_1 s0_2) (hB : Below w0.heap.size w0 w) (h : spec_l1Cur_ladders.f s0_0 s0_1 s0_2 = some (r1, r2, r3, r4, r5)) :
  Calls Try.prog 33 #[.pointer (some ⟨g, 0, none⟩)] w fun e w' => e = .returned (.agg #[.int .i64 r1, .int .i64 r2, .int .i64 r3]) ∧ IsS65 w0 w' g s0_0 r4 r5 ∧ Below w0.heap.size w0 w' ∧ KeepBut w w' g none := by
 have hu25 := Try.underlying25; have HI0 := Aside0.mk hI
 have HK := Aside0.mk (KeepBut.refl w g none)
 have HL := Aside0.mk hB.size; clear hI; have HW0 := Aside0.mk hB.size; have HB := Aside0.mk hB; clear hB
 have H : ((spec_l1Cur_sureLadders.f s0_0 s0_1 s0_2).bind fun bt144 => ((spec_l1Cur_pick.f s0_0 bt144.2.2.2.1 bt144.2.2.2.2 20).bind fun bt150 => (if bt150.1 = 0 then ((spec_l1Cur_among.f s0_0 bt150.2.1 bt150.2.2 (([(-1), 0, 1, 1000, 1001, 4611686018427387904] : List Int))).bind fun bt156 => (some (bt156.1, bt144.2.1, bt144.2.2.1, bt156.2.1, bt156.2.2))) else (if bt150.1 = 1 then ((spec_l1Cur_among.f s0_0 bt150.2.1 bt150.2.2 (([(-1), 0, 1, 1000, 1001, 4611686018427387904] : List Int))).bind fun bt162 => (some (bt144.1, bt162.1, bt144.2.2.1, bt162.2.1, bt162.2.2))) else (if bt150.1 = 2 then ((spec_l1Cur_among.f s0_0 bt150.2.1 bt150.2.2 (([(-1), 0, 1, 1000, 1001, 4611686018427387904] : List Int))).bind fun bt168 => (some (bt144.1, bt144.2.1, bt168.1, bt168.2.1, bt168.2.2))) else (some (bt144.1, bt144.2.1, bt144.2.2.1, bt150.2.1, bt150.2.2))))))) = some (r1, r2, r3, r4, r5) := h
 clear h; replace H := Option.bind_eq_some_iff.mp H; obtain ⟨⟨t144, t145, t146, t147, t148⟩, A20, H⟩ := H; (try dsimp only at H); have A2 := Aside0.mk A20; clear A20; replace H := Option.bind_eq_some_iff.mp H; obtain ⟨⟨t150, t151, t152⟩, A30, H⟩ := H; (try dsimp only at H); have A3 := Aside0.mk A30; clear A30
 by_cases c4 : t150 = 0
 ·rw [if_pos c4] at H
  have c4b0 : (t150 == 0) = true := beq_iff_eq.mpr c4
  have c4b1 : (t150 != 0) = false := bne_eq_false_iff_eq.mpr c4
  clear c4
  obtain ⟨y153, hy153⟩ : ∃ y_ : List Int, y_ = (([(-1), 0, 1, 1000, 1001, 4611686018427387904] : List Int)) := ⟨_, rfl⟩
  replace H : ((spec_l1Cur_among.f s0_0 t151 t152 y153).bind fun bt156 => (some (bt156.1, t145, t146, bt156.2.1, bt156.2.2))) = some (r1, r2, r3, r4, r5) := by first | (rw [hy153]; with_reducible exact H) | (have H2_ := (Option.bind_some _ _).symm.trans H; rw [hy153]; with_reducible exact H2_) | (have H2_ := (Option.bind_some _ _).symm.trans H; with_reducible exact H2_) | with_reducible exact H | (rw [hy153]; exact H) | exact H
  have Ny153 := Aside0.mk hy153; clear hy153; replace H := Option.bind_eq_some_iff.mp H; obtain ⟨⟨t156, t157, t158⟩, A50, H⟩ := H
  replace H : (some (t156, t145, t146, t157, t158)) = some (r1, r2, r3, r4, r5) := H
  have A5 := Aside0.mk A50; clear A50; simp only [Option.some.injEq, Prod.mk.injEq] at H; obtain ⟨rfl, rfl, rfl, rfl, rfl⟩ := H
  go_enter Try.func33, Try.ntmps33
  go_wp2_with (first | ((with_reducible refine gate_dst (N := 2) rfl ?_); refine zE 2 #[.int .i64 0, .int .i64 0, .int .i64 0] 25 ?_; intro gb143 hg w6 hbox hb; have BK143 := Aside0.mk (hbox); have GW143 := zKg HK hg; have GE143 := Aside0.mk (Nat.le_trans HW0.out GW143.out); have NB0_143 := zL65 HI0 hg; have NB143_0 := zR65 HI0 hg; replace HI0 := zJ65 HI0 hb; replace HK := zKb HK hb; replace HB := zH65 HB hb; clear hb hbox hg) | ((with_reducible refine gate_callee (f := 67) rfl ?_); refine zG (some 5) Try.func67 #[.pointer (some ⟨g, 0, none⟩)] ?_; (with_reducible refine (spec_l1Cur_sureLadders.calls g s0_0 s0_1 s0_2 t144 t145 t146 t147 t148 w0 _ ?side1 ?side2 A2.out).mono ?_); (case side1 => exact zI65 HI0); (case side2 => exact zY65 HB); rintro e w7 ⟨rfl, hi, hb, hk⟩; refine ⟨_, rfl, ?_⟩; replace BK143 := zKB BK143 hk; replace HK := zKt HK hk; replace HB := Aside0.mk hb; replace HI0 := Aside0.mk hi; clear hb hk hi) | ((with_reducible refine gate_dst (N := 3) rfl ?_); refine zE 3 #[.int .i64 0, .int .i64 0, .int .i64 0] 25 ?_; intro gb149 hg w8 hbox hb; have BK149 := Aside0.mk (hbox); have GW149 := zKg HK hg; have GE149 := Aside0.mk (Nat.le_trans HW0.out GW149.out); have NB143_149 := zl BK143 hg; have NB149_143 := zr BK143 hg; have NB0_149 := zL65 HI0 hg; have NB149_0 := zR65 HI0 hg; replace HI0 := zJ65 HI0 hb; replace BK143 := zb BK143 hb; replace HK := zKb HK hb; replace HB := zH65 HB hb; clear hb hbox hg; have hnb9 := NB149_143.out; have hnc9 := NB143_149.out; have hnb10 := NB149_0.out; have hnc10 := NB0_149.out; obtain ⟨_, _, _, _, _, _⟩ := zc3 BK149) | ((with_reducible refine gate_callee (f := 36) rfl ?_); refine zG (some 7) Try.func36 #[.pointer (some ⟨g, 0, none⟩), .int .i64 20] ?_; (with_reducible refine (spec_l1Cur_pick.calls g s0_0 t147 t148 20 t150 t151 t152 w0 _ ?side1 ?side2 A3.out).mono ?_); (case side1 => exact zI65 HI0); (case side2 => exact zY65 HB); rintro e w12 ⟨rfl, hi, hb, hk⟩; refine ⟨_, rfl, ?_⟩; have n1_ := Aside0.mk (KeepBut.blk hk (g' := gb149) (o := .cells #[.int .i64 t144, .int .i64 t145, .int .i64 t146] 25 (0, 0)) (zw BK149) NB149_0.out zO0_2); replace BK143 := zKB BK143 hk; replace HK := zKt HK hk; replace HB := Aside0.mk hb; replace HI0 := Aside0.mk hi; clear BK149; have BK149 := n1_; clear n1_; clear hb hk hi) | ((with_reducible refine gate_dst (N := 11) rfl ?_); refine Kd.R_lit (Kd.int .i64) _ 3 ?hg (N := 11) ?hd (xs := ([(-1), 0, 1, 1000, 1001, 4611686018427387904] : List Int)) (inner := [.int .i64 (-1), .int .i64 0, .int .i64 1, .int .i64 1000, .int .i64 1001, .int .i64 4611686018427387904]) (ok := fun _ => True) (okp := fun _ => True) ?hr ?hp (fun _ hk => hk) trivial (Below.refl _ _) (Nat.le_refl _) zO0_2 ?_; (case hd => rfl); (case hg => rfl); (case hr => first | (go_simp; done) | (go_simp; rfl)); (case hp => exact (Reps.one (show Kd.M (Kd.int .i64) _ _ _ (-1) [.int .i64 (-1)] from rfl) (Reps.one (show Kd.M (Kd.int .i64) _ _ _ 0 [.int .i64 0] from rfl) (Reps.one (show Kd.M (Kd.int .i64) _ _ _ 1 [.int .i64 1] from rfl) (Reps.one (show Kd.M (Kd.int .i64) _ _ _ 1000 [.int .i64 1000] from rfl) (Reps.one (show Kd.M (Kd.int .i64) _ _ _ 1001 [.int .i64 1001] from rfl) (Reps.one (show Kd.M (Kd.int .i64) _ _ _ 4611686018427387904 [.int .i64 4611686018427387904] from rfl) (Reps.none _ _)))))))); intro v154 w13 ho14 hb hg_ hnew_; clear hg_ hnew_; (first | rw [← Ny153.out] at ho14 | (simp only [Int.reduceToNat] at ho14; rw [← Ny153.out] at ho14)); have HO155 := Aside0.mk (Kd.R_lower ho14 (keep_size (w := w) (g := g) (row := none) (zKe HK))); replace HI0 := zJ65 HI0 hb; replace BK143 := zb BK143 hb; replace BK149 := zb BK149 hb; replace HK := zKb HK hb; replace HB := zH65 HB hb; clear hb ho14; obtain ⟨Ao15, co15, eo15⟩ := Kd.R_slice HO155.out; subst eo15) | ((with_reducible refine gate_callee (f := 34) rfl ?_); refine zG (some 12) Try.func34 #[.pointer (some ⟨g, 0, none⟩), .slice Ao15 y153.length co15] ?_; (with_reducible refine (spec_l1Cur_among.calls g s0_0 t151 t152 _ _ y153 t156 t157 t158 w0 _ ?side1 ?side2 ?side3 ?side4 ?side5 A5.out).mono ?_); (case side1 => exact zI65 HI0); (case side2 => exact zY65 HB); (case side3 => repeat (first | exact (Kd.R_reads' HO155.out).2.2 | (with_reducible refine Kd.C_alloc ?_ _) | (with_reducible refine Kd.C_drewN ?_ _) | (with_reducible refine Kd.C_drew ?_))); (case side4 => exact (Kd.R_reads' HO155.out).2.1); (case side5 => exact far_slice (IsS65.own_ne HI0.out HO155.out (by decide))); rintro e w16 ⟨rfl, hi, hb, hk⟩; refine ⟨_, rfl, ?_⟩; have n2_ := Aside0.mk (Kd.R_mono (Kd.R_keep (IsS65.apart (show IsS65 w0 _ g s0_0 t151 t152 from (zI65 HI0)) (zs HO155) (by decide)) hk (fun _ h => h.2)) (fun _ h => h.1)); replace BK143 := zKB BK143 hk; replace BK149 := zKB BK149 hk; replace HK := zKt HK hk; replace HB := Aside0.mk hb; replace HI0 := Aside0.mk hi; clear HO155; have HO155 := n2_; clear n2_; clear hb hk hi; obtain ⟨_, _, _, _, _, _⟩ := zc3 BK149; have hnb18 := NB143_0.out; have hnc18 := NB0_143.out; obtain ⟨_, _, _, _, _, _⟩ := zc3 BK143))
  refine bodyPost_ret (results_cell_row rfl _ _ gb143 25 #[.int .i64 t156, .int .i64 t145, .int .i64 t146] (0, 0) _ rfl (zw BK143) Try.underlying25 rfl (by kernel_rfl)) rfl ?_
  exact ⟨zt, (zI65 HI0), zY65 HB, zKe HK⟩
 ·rw [if_neg c4] at H
  have c4b0 : (t150 == 0) = false := beq_eq_false_iff_ne.mpr c4
  have c4b1 : (t150 != 0) = true := bne_iff_ne.mpr c4
  by_cases c20 : t150 = 1
  ·rw [if_pos c20] at H
   have c20b0 : (t150 == 1) = true := beq_iff_eq.mpr c20
   have c20b1 : (t150 != 1) = false := bne_eq_false_iff_eq.mpr c20
   clear c20
   obtain ⟨y159, hy159⟩ : ∃ y_ : List Int, y_ = (([(-1), 0, 1, 1000, 1001, 4611686018427387904] : List Int)) := ⟨_, rfl⟩
   replace H : ((spec_l1Cur_among.f s0_0 t151 t152 y159).bind fun bt162 => (some (t144, bt162.1, t146, bt162.2.1, bt162.2.2))) = some (r1, r2, r3, r4, r5) := by first | (rw [hy159]; with_reducible exact H) | (have H2_ := (Option.bind_some _ _).symm.trans H; rw [hy159]; with_reducible exact H2_) | (have H2_ := (Option.bind_some _ _).symm.trans H; with_reducible exact H2_) | with_reducible exact H | (rw [hy159]; exact H) | exact H
   have Ny159 := Aside0.mk hy159; clear hy159; replace H := Option.bind_eq_some_iff.mp H; obtain ⟨⟨t162, t163, t164⟩, A210, H⟩ := H
   replace H : (some (t144, t162, t146, t163, t164)) = some (r1, r2, r3, r4, r5) := H
   have A21 := Aside0.mk A210; clear A210; simp only [Option.some.injEq, Prod.mk.injEq] at H; obtain ⟨rfl, rfl, rfl, rfl, rfl⟩ := H
   go_enter Try.func33, Try.ntmps33
   go_wp2_with (first | ((with_reducible refine gate_dst (N := 2) rfl ?_); refine zE 2 #[.int .i64 0, .int .i64 0, .int .i64 0] 25 ?_; intro gb143 hg w22 hbox hb; have BK143 := Aside0.mk (hbox); have GW143 := zKg HK hg; have GE143 := Aside0.mk (Nat.le_trans HW0.out GW143.out); have NB0_143 := zL65 HI0 hg; have NB143_0 := zR65 HI0 hg; replace HI0 := zJ65 HI0 hb; replace HK := zKb HK hb; replace HB := zH65 HB hb; clear hb hbox hg) | ((with_reducible refine gate_callee (f := 67) rfl ?_); refine zG (some 5) Try.func67 #[.pointer (some ⟨g, 0, none⟩)] ?_; (with_reducible refine (spec_l1Cur_sureLadders.calls g s0_0 s0_1 s0_2 t144 t145 t146 t147 t148 w0 _ ?side1 ?side2 A2.out).mono ?_); (case side1 => exact zI65 HI0); (case side2 => exact zY65 HB); rintro e w23 ⟨rfl, hi, hb, hk⟩; refine ⟨_, rfl, ?_⟩; replace BK143 := zKB BK143 hk; replace HK := zKt HK hk; replace HB := Aside0.mk hb; replace HI0 := Aside0.mk hi; clear hb hk hi) | ((with_reducible refine gate_dst (N := 3) rfl ?_); refine zE 3 #[.int .i64 0, .int .i64 0, .int .i64 0] 25 ?_; intro gb149 hg w24 hbox hb; have BK149 := Aside0.mk (hbox); have GW149 := zKg HK hg; have GE149 := Aside0.mk (Nat.le_trans HW0.out GW149.out); have NB143_149 := zl BK143 hg; have NB149_143 := zr BK143 hg; have NB0_149 := zL65 HI0 hg; have NB149_0 := zR65 HI0 hg; replace HI0 := zJ65 HI0 hb; replace BK143 := zb BK143 hb; replace HK := zKb HK hb; replace HB := zH65 HB hb; clear hb hbox hg; have hnb25 := NB149_143.out; have hnc25 := NB143_149.out; have hnb26 := NB149_0.out; have hnc26 := NB0_149.out; obtain ⟨_, _, _, _, _, _⟩ := zc3 BK149) | ((with_reducible refine gate_callee (f := 36) rfl ?_); refine zG (some 7) Try.func36 #[.pointer (some ⟨g, 0, none⟩), .int .i64 20] ?_; (with_reducible refine (spec_l1Cur_pick.calls g s0_0 t147 t148 20 t150 t151 t152 w0 _ ?side1 ?side2 A3.out).mono ?_); (case side1 => exact zI65 HI0); (case side2 => exact zY65 HB); rintro e w28 ⟨rfl, hi, hb, hk⟩; refine ⟨_, rfl, ?_⟩; have n1_ := Aside0.mk (KeepBut.blk hk (g' := gb149) (o := .cells #[.int .i64 t144, .int .i64 t145, .int .i64 t146] 25 (0, 0)) (zw BK149) NB149_0.out zO0_2); replace BK143 := zKB BK143 hk; replace HK := zKt HK hk; replace HB := Aside0.mk hb; replace HI0 := Aside0.mk hi; clear BK149; have BK149 := n1_; clear n1_; clear hb hk hi) | ((with_reducible refine gate_dst (N := 17) rfl ?_); refine Kd.R_lit (Kd.int .i64) _ 3 ?hg (N := 17) ?hd (xs := ([(-1), 0, 1, 1000, 1001, 4611686018427387904] : List Int)) (inner := [.int .i64 (-1), .int .i64 0, .int .i64 1, .int .i64 1000, .int .i64 1001, .int .i64 4611686018427387904]) (ok := fun _ => True) (okp := fun _ => True) ?hr ?hp (fun _ hk => hk) trivial (Below.refl _ _) (Nat.le_refl _) zO0_2 ?_; (case hd => rfl); (case hg => rfl); (case hr => first | (go_simp; done) | (go_simp; rfl)); (case hp => exact (Reps.one (show Kd.M (Kd.int .i64) _ _ _ (-1) [.int .i64 (-1)] from rfl) (Reps.one (show Kd.M (Kd.int .i64) _ _ _ 0 [.int .i64 0] from rfl) (Reps.one (show Kd.M (Kd.int .i64) _ _ _ 1 [.int .i64 1] from rfl) (Reps.one (show Kd.M (Kd.int .i64) _ _ _ 1000 [.int .i64 1000] from rfl) (Reps.one (show Kd.M (Kd.int .i64) _ _ _ 1001 [.int .i64 1001] from rfl) (Reps.one (show Kd.M (Kd.int .i64) _ _ _ 4611686018427387904 [.int .i64 4611686018427387904] from rfl) (Reps.none _ _)))))))); intro v160 w29 ho30 hb hg_ hnew_; clear hg_ hnew_; (first | rw [← Ny159.out] at ho30 | (simp only [Int.reduceToNat] at ho30; rw [← Ny159.out] at ho30)); have HO161 := Aside0.mk (Kd.R_lower ho30 (keep_size (w := w) (g := g) (row := none) (zKe HK))); replace HI0 := zJ65 HI0 hb; replace BK143 := zb BK143 hb; replace BK149 := zb BK149 hb; replace HK := zKb HK hb; replace HB := zH65 HB hb; clear hb ho30; obtain ⟨Ao31, co31, eo31⟩ := Kd.R_slice HO161.out; subst eo31) | ((with_reducible refine gate_callee (f := 34) rfl ?_); refine zG (some 18) Try.func34 #[.pointer (some ⟨g, 0, none⟩), .slice Ao31 y159.length co31] ?_; (with_reducible refine (spec_l1Cur_among.calls g s0_0 t151 t152 _ _ y159 t162 t163 t164 w0 _ ?side1 ?side2 ?side3 ?side4 ?side5 A21.out).mono ?_); (case side1 => exact zI65 HI0); (case side2 => exact zY65 HB); (case side3 => repeat (first | exact (Kd.R_reads' HO161.out).2.2 | (with_reducible refine Kd.C_alloc ?_ _) | (with_reducible refine Kd.C_drewN ?_ _) | (with_reducible refine Kd.C_drew ?_))); (case side4 => exact (Kd.R_reads' HO161.out).2.1); (case side5 => exact far_slice (IsS65.own_ne HI0.out HO161.out (by decide))); rintro e w32 ⟨rfl, hi, hb, hk⟩; refine ⟨_, rfl, ?_⟩; have n2_ := Aside0.mk (Kd.R_mono (Kd.R_keep (IsS65.apart (show IsS65 w0 _ g s0_0 t151 t152 from (zI65 HI0)) (zs HO161) (by decide)) hk (fun _ h => h.2)) (fun _ h => h.1)); replace BK143 := zKB BK143 hk; replace BK149 := zKB BK149 hk; replace HK := zKt HK hk; replace HB := Aside0.mk hb; replace HI0 := Aside0.mk hi; clear HO161; have HO161 := n2_; clear n2_; clear hb hk hi; obtain ⟨_, _, _, _, _, _⟩ := zc3 BK149; have hnb34 := NB143_0.out; have hnc34 := NB0_143.out; obtain ⟨_, _, _, _, _, _⟩ := zc3 BK143))
   refine bodyPost_ret (results_cell_row rfl _ _ gb143 25 #[.int .i64 t144, .int .i64 t162, .int .i64 t146] (0, 0) _ rfl (zw BK143) Try.underlying25 rfl (by kernel_rfl)) rfl ?_
   exact ⟨zt, (zI65 HI0), zY65 HB, zKe HK⟩
  ·rw [if_neg c20] at H
   have c20b0 : (t150 == 1) = false := beq_eq_false_iff_ne.mpr c20
   have c20b1 : (t150 != 1) = true := bne_iff_ne.mpr c20
   by_cases c36 : t150 = 2
   ·rw [if_pos c36] at H
    have c36b0 : (t150 == 2) = true := beq_iff_eq.mpr c36
    have c36b1 : (t150 != 2) = false := bne_eq_false_iff_eq.mpr c36
    clear c36
    obtain ⟨y165, hy165⟩ : ∃ y_ : List Int, y_ = (([(-1), 0, 1, 1000, 1001, 4611686018427387904] : List Int)) := ⟨_, rfl⟩
    replace H : ((spec_l1Cur_among.f s0_0 t151 t152 y165).bind fun bt168 => (some (t144, t145, bt168.1, bt168.2.1, bt168.2.2))) = some (r1, r2, r3, r4, r5) := by first | (rw [hy165]; with_reducible exact H) | (have H2_ := (Option.bind_some _ _).symm.trans H; rw [hy165]; with_reducible exact H2_) | (have H2_ := (Option.bind_some _ _).symm.trans H; with_reducible exact H2_) | with_reducible exact H | (rw [hy165]; exact H) | exact H
    have Ny165 := Aside0.mk hy165; clear hy165; replace H := Option.bind_eq_some_iff.mp H; obtain ⟨⟨t168, t169, t170⟩, A370, H⟩ := H
    replace H : (some (t144, t145, t168, t169, t170)) = some (r1, r2, r3, r4, r5) := H
    have A37 := Aside0.mk A370; clear A370; simp only [Option.some.injEq, Prod.mk.injEq] at H; obtain ⟨rfl, rfl, rfl, rfl, rfl⟩ := H
    go_enter Try.func33, Try.ntmps33
    go_wp2_with (first | ((with_reducible refine gate_dst (N := 2) rfl ?_); refine zE 2 #[.int .i64 0, .int .i64 0, .int .i64 0] 25 ?_; intro gb143 hg w38 hbox hb; have BK143 := Aside0.mk (hbox); have GW143 := zKg HK hg; have GE143 := Aside0.mk (Nat.le_trans HW0.out GW143.out); have NB0_143 := zL65 HI0 hg; have NB143_0 := zR65 HI0 hg; replace HI0 := zJ65 HI0 hb; replace HK := zKb HK hb; replace HB := zH65 HB hb; clear hb hbox hg) | ((with_reducible refine gate_callee (f := 67) rfl ?_); refine zG (some 5) Try.func67 #[.pointer (some ⟨g, 0, none⟩)] ?_; (with_reducible refine (spec_l1Cur_sureLadders.calls g s0_0 s0_1 s0_2 t144 t145 t146 t147 t148 w0 _ ?side1 ?side2 A2.out).mono ?_); (case side1 => exact zI65 HI0); (case side2 => exact zY65 HB); rintro e w39 ⟨rfl, hi, hb, hk⟩; refine ⟨_, rfl, ?_⟩; replace BK143 := zKB BK143 hk; replace HK := zKt HK hk; replace HB := Aside0.mk hb; replace HI0 := Aside0.mk hi; clear hb hk hi) | ((with_reducible refine gate_dst (N := 3) rfl ?_); refine zE 3 #[.int .i64 0, .int .i64 0, .int .i64 0] 25 ?_; intro gb149 hg w40 hbox hb; have BK149 := Aside0.mk (hbox); have GW149 := zKg HK hg; have GE149 := Aside0.mk (Nat.le_trans HW0.out GW149.out); have NB143_149 := zl BK143 hg; have NB149_143 := zr BK143 hg; have NB0_149 := zL65 HI0 hg; have NB149_0 := zR65 HI0 hg; replace HI0 := zJ65 HI0 hb; replace BK143 := zb BK143 hb; replace HK := zKb HK hb; replace HB := zH65 HB hb; clear hb hbox hg; have hnb41 := NB149_143.out; have hnc41 := NB143_149.out; have hnb42 := NB149_0.out; have hnc42 := NB0_149.out; obtain ⟨_, _, _, _, _, _⟩ := zc3 BK149) | ((with_reducible refine gate_callee (f := 36) rfl ?_); refine zG (some 7) Try.func36 #[.pointer (some ⟨g, 0, none⟩), .int .i64 20] ?_; (with_reducible refine (spec_l1Cur_pick.calls g s0_0 t147 t148 20 t150 t151 t152 w0 _ ?side1 ?side2 A3.out).mono ?_); (case side1 => exact zI65 HI0); (case side2 => exact zY65 HB); rintro e w44 ⟨rfl, hi, hb, hk⟩; refine ⟨_, rfl, ?_⟩; have n1_ := Aside0.mk (KeepBut.blk hk (g' := gb149) (o := .cells #[.int .i64 t144, .int .i64 t145, .int .i64 t146] 25 (0, 0)) (zw BK149) NB149_0.out zO0_2); replace BK143 := zKB BK143 hk; replace HK := zKt HK hk; replace HB := Aside0.mk hb; replace HI0 := Aside0.mk hi; clear BK149; have BK149 := n1_; clear n1_; clear hb hk hi) | ((with_reducible refine gate_dst (N := 23) rfl ?_); refine Kd.R_lit (Kd.int .i64) _ 3 ?hg (N := 23) ?hd (xs := ([(-1), 0, 1, 1000, 1001, 4611686018427387904] : List Int)) (inner := [.int .i64 (-1), .int .i64 0, .int .i64 1, .int .i64 1000, .int .i64 1001, .int .i64 4611686018427387904]) (ok := fun _ => True) (okp := fun _ => True) ?hr ?hp (fun _ hk => hk) trivial (Below.refl _ _) (Nat.le_refl _) zO0_2 ?_; (case hd => rfl); (case hg => rfl); (case hr => first | (go_simp; done) | (go_simp; rfl)); (case hp => exact (Reps.one (show Kd.M (Kd.int .i64) _ _ _ (-1) [.int .i64 (-1)] from rfl) (Reps.one (show Kd.M (Kd.int .i64) _ _ _ 0 [.int .i64 0] from rfl) (Reps.one (show Kd.M (Kd.int .i64) _ _ _ 1 [.int .i64 1] from rfl) (Reps.one (show Kd.M (Kd.int .i64) _ _ _ 1000 [.int .i64 1000] from rfl) (Reps.one (show Kd.M (Kd.int .i64) _ _ _ 1001 [.int .i64 1001] from rfl) (Reps.one (show Kd.M (Kd.int .i64) _ _ _ 4611686018427387904 [.int .i64 4611686018427387904] from rfl) (Reps.none _ _)))))))); intro v166 w45 ho46 hb hg_ hnew_; clear hg_ hnew_; (first | rw [← Ny165.out] at ho46 | (simp only [Int.reduceToNat] at ho46; rw [← Ny165.out] at ho46)); have HO167 := Aside0.mk (Kd.R_lower ho46 (keep_size (w := w) (g := g) (row := none) (zKe HK))); replace HI0 := zJ65 HI0 hb; replace BK143 := zb BK143 hb; replace BK149 := zb BK149 hb; replace HK := zKb HK hb; replace HB := zH65 HB hb; clear hb ho46; obtain ⟨Ao47, co47, eo47⟩ := Kd.R_slice HO167.out; subst eo47) | ((with_reducible refine gate_callee (f := 34) rfl ?_); refine zG (some 24) Try.func34 #[.pointer (some ⟨g, 0, none⟩), .slice Ao47 y165.length co47] ?_; (with_reducible refine (spec_l1Cur_among.calls g s0_0 t151 t152 _ _ y165 t168 t169 t170 w0 _ ?side1 ?side2 ?side3 ?side4 ?side5 A37.out).mono ?_); (case side1 => exact zI65 HI0); (case side2 => exact zY65 HB); (case side3 => repeat (first | exact (Kd.R_reads' HO167.out).2.2 | (with_reducible refine Kd.C_alloc ?_ _) | (with_reducible refine Kd.C_drewN ?_ _) | (with_reducible refine Kd.C_drew ?_))); (case side4 => exact (Kd.R_reads' HO167.out).2.1); (case side5 => exact far_slice (IsS65.own_ne HI0.out HO167.out (by decide))); rintro e w48 ⟨rfl, hi, hb, hk⟩; refine ⟨_, rfl, ?_⟩; have n2_ := Aside0.mk (Kd.R_mono (Kd.R_keep (IsS65.apart (show IsS65 w0 _ g s0_0 t151 t152 from (zI65 HI0)) (zs HO167) (by decide)) hk (fun _ h => h.2)) (fun _ h => h.1)); replace BK143 := zKB BK143 hk; replace BK149 := zKB BK149 hk; replace HK := zKt HK hk; replace HB := Aside0.mk hb; replace HI0 := Aside0.mk hi; clear HO167; have HO167 := n2_; clear n2_; clear hb hk hi; obtain ⟨_, _, _, _, _, _⟩ := zc3 BK149; have hnb50 := NB143_0.out; have hnc50 := NB0_143.out; obtain ⟨_, _, _, _, _, _⟩ := zc3 BK143))
    refine bodyPost_ret (results_cell_row rfl _ _ gb143 25 #[.int .i64 t144, .int .i64 t145, .int .i64 t168] (0, 0) _ rfl (zw BK143) Try.underlying25 rfl (by kernel_rfl)) rfl ?_
    exact ⟨zt, (zI65 HI0), zY65 HB, zKe HK⟩
   ·rw [if_neg c36] at H
    have c36b0 : (t150 == 2) = false := beq_eq_false_iff_ne.mpr c36
    have c36b1 : (t150 != 2) = true := bne_iff_ne.mpr c36
    simp only [Option.some.injEq, Prod.mk.injEq] at H; obtain ⟨rfl, rfl, rfl, rfl, rfl⟩ := H
    go_enter Try.func33, Try.ntmps33
    go_wp2_with (first | ((with_reducible refine gate_dst (N := 2) rfl ?_); refine zE 2 #[.int .i64 0, .int .i64 0, .int .i64 0] 25 ?_; intro gb143 hg w52 hbox hb; have BK143 := Aside0.mk (hbox); have GW143 := zKg HK hg; have GE143 := Aside0.mk (Nat.le_trans HW0.out GW143.out); have NB0_143 := zL65 HI0 hg; have NB143_0 := zR65 HI0 hg; replace HI0 := zJ65 HI0 hb; replace HK := zKb HK hb; replace HB := zH65 HB hb; clear hb hbox hg) | ((with_reducible refine gate_callee (f := 67) rfl ?_); refine zG (some 5) Try.func67 #[.pointer (some ⟨g, 0, none⟩)] ?_; (with_reducible refine (spec_l1Cur_sureLadders.calls g s0_0 s0_1 s0_2 t144 t145 t146 t147 t148 w0 _ ?side1 ?side2 A2.out).mono ?_); (case side1 => exact zI65 HI0); (case side2 => exact zY65 HB); rintro e w53 ⟨rfl, hi, hb, hk⟩; refine ⟨_, rfl, ?_⟩; replace BK143 := zKB BK143 hk; replace HK := zKt HK hk; replace HB := Aside0.mk hb; replace HI0 := Aside0.mk hi; clear hb hk hi) | ((with_reducible refine gate_dst (N := 3) rfl ?_); refine zE 3 #[.int .i64 0, .int .i64 0, .int .i64 0] 25 ?_; intro gb149 hg w54 hbox hb; have BK149 := Aside0.mk (hbox); have GW149 := zKg HK hg; have GE149 := Aside0.mk (Nat.le_trans HW0.out GW149.out); have NB143_149 := zl BK143 hg; have NB149_143 := zr BK143 hg; have NB0_149 := zL65 HI0 hg; have NB149_0 := zR65 HI0 hg; replace HI0 := zJ65 HI0 hb; replace BK143 := zb BK143 hb; replace HK := zKb HK hb; replace HB := zH65 HB hb; clear hb hbox hg; have hnb55 := NB149_143.out; have hnc55 := NB143_149.out; have hnb56 := NB149_0.out; have hnc56 := NB0_149.out; obtain ⟨_, _, _, _, _, _⟩ := zc3 BK149) | ((with_reducible refine gate_callee (f := 36) rfl ?_); refine zG (some 7) Try.func36 #[.pointer (some ⟨g, 0, none⟩), .int .i64 20] ?_; (with_reducible refine (spec_l1Cur_pick.calls g s0_0 t147 t148 20 t150 t151 t152 w0 _ ?side1 ?side2 A3.out).mono ?_); (case side1 => exact zI65 HI0); (case side2 => exact zY65 HB); rintro e w58 ⟨rfl, hi, hb, hk⟩; refine ⟨_, rfl, ?_⟩; have n1_ := Aside0.mk (KeepBut.blk hk (g' := gb149) (o := .cells #[.int .i64 t144, .int .i64 t145, .int .i64 t146] 25 (0, 0)) (zw BK149) NB149_0.out zO0_2); replace BK143 := zKB BK143 hk; replace HK := zKt HK hk; replace HB := Aside0.mk hb; replace HI0 := Aside0.mk hi; clear BK149; have BK149 := n1_; clear n1_; clear hb hk hi; obtain ⟨_, _, _, _, _, _⟩ := zc3 BK149; have hnb60 := NB143_0.out; have hnc60 := NB0_143.out; obtain ⟨_, _, _, _, _, _⟩ := zc3 BK143))
    refine bodyPost_ret (results_cell_row rfl _ _ gb143 25 #[.int .i64 t144, .int .i64 t145, .int .i64 t146] (0, 0) _ rfl (zw BK143) Try.underlying25 rfl (by kernel_rfl)) rfl ?_
    exact ⟨zt, (zI65 HI0), zY65 HB, zKe HK⟩


/-! ### spec_l1Cur_hidden: function 35 -/
def spec_l1Cur_hidden.f (s0_0 : List Int) (s0_1 : Int) (s0_2 : Int) : Option (Int × Int × Int × Int × Int) := (spec_l1Cur_pick.f s0_0 s0_1 s0_2 12).bind fun bt172 => ((spec_l1Cur_pick.f s0_0 bt172.2.1 bt172.2.2 12).bind fun bt175 => ((spec_l1Cur_pick.f s0_0 bt175.2.1 bt175.2.2 12).bind fun bt178 => (some (wrap64 (1 + bt172.1), wrap64 (1 + bt175.1), wrap64 (1 + bt178.1), bt178.2.1, bt178.2.2))))
set_option maxHeartbeats 8000000 in
set_option maxRecDepth 100000 in
theorem spec_l1Cur_hidden.calls (g : Nat) (s0_0 : List Int) (s0_1 : Int) (s0_2 : Int) (r1 : Int) (r2 : Int) (r3 : Int) (r4 : Int) (r5 : Int) (w0 w : World) (hI : IsS65 w0 w g s0_0 s0_1 s0_2) (hB : Below w0.heap.size w0 w) (h : spec_l1Cur_hidden.f s0_0 s0_1 s0_2 = some (r1, r2, r3, r4, r5)) :
  Calls Try.prog 35 #[.pointer (some ⟨g, 0, none⟩)] w fun e w' => e = .returned (.agg #[.int .i64 r1, .int .i64 r2, .int .i64 r3]) ∧ IsS65 w0 w' g s0_0 r4 r5 ∧ Below w0.heap.size w0 w' ∧ KeepBut w w' g none := by
 have hu25 := Try.underlying25; have HI0 := Aside0.mk hI
 have HK := Aside0.mk (KeepBut.refl w g none)
 have HL := Aside0.mk hB.size; clear hI; have HW0 := Aside0.mk hB.size; have HB := Aside0.mk hB; clear hB
 have H : ((spec_l1Cur_pick.f s0_0 s0_1 s0_2 12).bind fun bt172 => ((spec_l1Cur_pick.f s0_0 bt172.2.1 bt172.2.2 12).bind fun bt175 => ((spec_l1Cur_pick.f s0_0 bt175.2.1 bt175.2.2 12).bind fun bt178 => (some (wrap64 (1 + bt172.1), wrap64 (1 + bt175.1), wrap64 (1 + bt178.1), bt178.2.1, bt178.2.2))))) = some (r1, r2, r3, r4, r5) := h
 clear h; replace H := Option.bind_eq_some_iff.mp H; obtain ⟨⟨t172, t173, t174⟩, A20, H⟩ := H; (try dsimp only at H); have A2 := Aside0.mk A20; clear A20; replace H := Option.bind_eq_some_iff.mp H; obtain ⟨⟨t175, t176, t177⟩, A30, H⟩ := H; (try dsimp only at H); have A3 := Aside0.mk A30; clear A30; replace H := Option.bind_eq_some_iff.mp H; obtain ⟨⟨t178, t179, t180⟩, A40, H⟩ := H
 replace H : (some (wrap64 (1 + t172), wrap64 (1 + t175), wrap64 (1 + t178), t179, t180)) = some (r1, r2, r3, r4, r5) := H
 have A4 := Aside0.mk A40; clear A40; simp only [Option.some.injEq, Prod.mk.injEq] at H; obtain ⟨rfl, rfl, rfl, rfl, rfl⟩ := H
 go_enter Try.func35, Try.ntmps35
 go_wp2_with (first | ((with_reducible refine gate_dst (N := 2) rfl ?_); refine zE 2 #[.int .i64 0, .int .i64 0, .int .i64 0] 25 ?_; intro gb171 hg w5 hbox hb; have BK171 := Aside0.mk (hbox); have GW171 := zKg HK hg; have GE171 := Aside0.mk (Nat.le_trans HW0.out GW171.out); have NB0_171 := zL65 HI0 hg; have NB171_0 := zR65 HI0 hg; replace HI0 := zJ65 HI0 hb; replace HK := zKb HK hb; replace HB := zH65 HB hb; clear hb hbox hg) | ((with_reducible refine gate_callee (f := 36) rfl ?_); refine zG (some 4) Try.func36 #[.pointer (some ⟨g, 0, none⟩), .int .i64 12] ?_; (with_reducible refine (spec_l1Cur_pick.calls g s0_0 s0_1 s0_2 12 t172 t173 t174 w0 _ ?side1 ?side2 A2.out).mono ?_); (case side1 => exact zI65 HI0); (case side2 => exact zY65 HB); rintro e w6 ⟨rfl, hi, hb, hk⟩; refine ⟨_, rfl, ?_⟩; replace BK171 := zKB BK171 hk; replace HK := zKt HK hk; replace HB := Aside0.mk hb; replace HI0 := Aside0.mk hi; clear hb hk hi) | ((with_reducible refine gate_callee (f := 36) rfl ?_); refine zG (some 7) Try.func36 #[.pointer (some ⟨g, 0, none⟩), .int .i64 12] ?_; (with_reducible refine (spec_l1Cur_pick.calls g s0_0 t173 t174 12 t175 t176 t177 w0 _ ?side1 ?side2 A3.out).mono ?_); (case side1 => exact zI65 HI0); (case side2 => exact zY65 HB); rintro e w7 ⟨rfl, hi, hb, hk⟩; refine ⟨_, rfl, ?_⟩; replace BK171 := zKB BK171 hk; replace HK := zKt HK hk; replace HB := Aside0.mk hb; replace HI0 := Aside0.mk hi; clear hb hk hi) | ((with_reducible refine gate_callee (f := 36) rfl ?_); refine zG (some 10) Try.func36 #[.pointer (some ⟨g, 0, none⟩), .int .i64 12] ?_; (with_reducible refine (spec_l1Cur_pick.calls g s0_0 t176 t177 12 t178 t179 t180 w0 _ ?side1 ?side2 A4.out).mono ?_); (case side1 => exact zI65 HI0); (case side2 => exact zY65 HB); rintro e w8 ⟨rfl, hi, hb, hk⟩; refine ⟨_, rfl, ?_⟩; replace BK171 := zKB BK171 hk; replace HK := zKt HK hk; replace HB := Aside0.mk hb; replace HI0 := Aside0.mk hi; clear hb hk hi; have hnb9 := NB171_0.out; have hnc9 := NB0_171.out; obtain ⟨_, _, _, _, _, _⟩ := zc3 BK171))
 refine bodyPost_ret (results_cell_row rfl _ _ gb171 25 #[.int .i64 (wrap64 (1 + t172)), .int .i64 (wrap64 (1 + t175)), .int .i64 (wrap64 (1 + t178))] (0, 0) _ rfl (zw BK171) Try.underlying25 rfl (by kernel_rfl)) rfl ?_
 exact ⟨zt, (zI65 HI0), zY65 HB, zKe HK⟩


/-! ### spec_DrawMakePuzzle: function 5 -/
def spec_DrawMakePuzzle.f (l0 : List Int) : Option (Int × Int × Int × Int × Int) := (spec_l1Cur_one.f l0 0 0 12).bind fun bt183 => (if bt183.1 = true then ((spec_l1Cur_ladders.f l0 bt183.2.1 bt183.2.2).bind fun bt186 => ((spec_l1Cur_among.f l0 bt186.2.2.2.1 bt186.2.2.2.2 (([(-1), 6, 7] : List Int))).bind fun bt194 => ((spec_l1Cur_among.f l0 bt194.2.1 bt194.2.2 (([(-1), 9999, 10000] : List Int))).bind fun bt200 => (some (bt186.1, bt186.2.1, bt186.2.2.1, bt194.1, bt200.1))))) else ((spec_l1Cur_hidden.f l0 bt183.2.1 bt183.2.2).bind fun bt203 => ((spec_l1Cur_pick.f l0 bt203.2.2.2.1 bt203.2.2.2.2 7).bind fun bt208 => ((spec_l1Cur_pick.f l0 bt208.2.1 bt208.2.2 10000).bind fun bt211 => (some (bt203.1, bt203.2.1, bt203.2.2.1, bt208.1, bt211.1))))))
set_option maxHeartbeats 8000000 in
set_option maxRecDepth 100000 in
theorem spec_DrawMakePuzzle.calls (A0 : Option Addr) (c0 : Nat) (l0 : List Int) (r1 : Int) (r2 : Int) (r3 : Int) (r4 : Int) (r5 : Int) (w : World) (hr0 : Kd.C (Kd.int .u8) w A0 l0.length l0) (hc0 : l0.length ≤ c0) (h : spec_DrawMakePuzzle.f l0 = some (r1, r2, r3, r4, r5)) :
  Calls Try.prog 5 #[.slice A0 l0.length c0] w fun e w' => e = .returned (.tuple #[.agg #[.int .i64 r1, .int .i64 r2, .int .i64 r3], .int .i64 r4, .int .i64 r5]) ∧ Below w.heap.size w w' := by
 have hu25 := Try.underlying25; have hu65 := Try.underlying65; have HR0 := Aside0.mk hr0; have HC0 := Aside0.mk hc0; clear hr0 hc0
 have HB := Aside0.mk (Below.refl w.heap.size w)
 have H : ((spec_l1Cur_one.f l0 0 0 12).bind fun bt183 => (if bt183.1 = true then ((spec_l1Cur_ladders.f l0 bt183.2.1 bt183.2.2).bind fun bt186 => ((spec_l1Cur_among.f l0 bt186.2.2.2.1 bt186.2.2.2.2 (([(-1), 6, 7] : List Int))).bind fun bt194 => ((spec_l1Cur_among.f l0 bt194.2.1 bt194.2.2 (([(-1), 9999, 10000] : List Int))).bind fun bt200 => (some (bt186.1, bt186.2.1, bt186.2.2.1, bt194.1, bt200.1))))) else ((spec_l1Cur_hidden.f l0 bt183.2.1 bt183.2.2).bind fun bt203 => ((spec_l1Cur_pick.f l0 bt203.2.2.2.1 bt203.2.2.2.2 7).bind fun bt208 => ((spec_l1Cur_pick.f l0 bt208.2.1 bt208.2.2 10000).bind fun bt211 => (some (bt203.1, bt203.2.1, bt203.2.2.1, bt208.1, bt211.1))))))) = some (r1, r2, r3, r4, r5) := h
 clear h; replace H := Option.bind_eq_some_iff.mp H; obtain ⟨⟨t183, t184, t185⟩, A20, H⟩ := H; (try dsimp only at H); have A2 := Aside0.mk A20; clear A20
 by_cases c3 : t183 = true
 ·subst c3
  rw [if_pos rfl] at H; replace H := Option.bind_eq_some_iff.mp H; obtain ⟨⟨t186, t187, t188, t189, t190⟩, A40, H⟩ := H; (try dsimp only at H); have A4 := Aside0.mk A40; clear A40
  obtain ⟨y191, hy191⟩ : ∃ y_ : List Int, y_ = (([(-1), 6, 7] : List Int)) := ⟨_, rfl⟩
  replace H : ((spec_l1Cur_among.f l0 t189 t190 y191).bind fun bt194 => ((spec_l1Cur_among.f l0 bt194.2.1 bt194.2.2 (([(-1), 9999, 10000] : List Int))).bind fun bt200 => (some (t186, t187, t188, bt194.1, bt200.1)))) = some (r1, r2, r3, r4, r5) := by first | (rw [hy191]; with_reducible exact H) | (have H2_ := (Option.bind_some _ _).symm.trans H; rw [hy191]; with_reducible exact H2_) | (have H2_ := (Option.bind_some _ _).symm.trans H; with_reducible exact H2_) | with_reducible exact H | (rw [hy191]; exact H) | exact H
  have Ny191 := Aside0.mk hy191; clear hy191; replace H := Option.bind_eq_some_iff.mp H; obtain ⟨⟨t194, t195, t196⟩, A50, H⟩ := H
  replace H : ((spec_l1Cur_among.f l0 t195 t196 (([(-1), 9999, 10000] : List Int))).bind fun bt200 => (some (t186, t187, t188, t194, bt200.1))) = some (r1, r2, r3, r4, r5) := H
  have A5 := Aside0.mk A50; clear A50
  obtain ⟨y197, hy197⟩ : ∃ y_ : List Int, y_ = (([(-1), 9999, 10000] : List Int)) := ⟨_, rfl⟩
  replace H : ((spec_l1Cur_among.f l0 t195 t196 y197).bind fun bt200 => (some (t186, t187, t188, t194, bt200.1))) = some (r1, r2, r3, r4, r5) := by first | (rw [hy197]; with_reducible exact H) | (have H2_ := (Option.bind_some _ _).symm.trans H; rw [hy197]; with_reducible exact H2_) | (have H2_ := (Option.bind_some _ _).symm.trans H; with_reducible exact H2_) | with_reducible exact H | (rw [hy197]; exact H) | exact H
  have Ny197 := Aside0.mk hy197; clear hy197; replace H := Option.bind_eq_some_iff.mp H; obtain ⟨⟨t200, t201, t202⟩, A60, H⟩ := H
  replace H : (some (t186, t187, t188, t194, t200)) = some (r1, r2, r3, r4, r5) := H
  have A6 := Aside0.mk A60; clear A60; simp only [Option.some.injEq, Prod.mk.injEq] at H; obtain ⟨rfl, rfl, rfl, rfl, rfl⟩ := H
  go_enter Try.func5, Try.ntmps5
  go_wp2_with (first | ((with_reducible refine gate_dst (N := 2) rfl ?_); refine zE 2 #[.int .i64 0, .int .i64 0, .int .i64 0] 25 ?_; intro gb181 hg w7 hbox hb; have BK181 := Aside0.mk (hbox); have GW181 := zg HB hg; have GE181 := GW181; replace HB := zh HB hb; clear hb hbox hg) | ((with_reducible refine gate_dst (N := 8) rfl ?_); refine zE 8 #[.slice A0 l0.length c0, .int .i64 0, .int .u64 0] 65 ?_; intro gb182 hg w8 hbox hb; have HI182 := Aside0.mk ((show IsS65 w _ gb182 l0 0 0 from ⟨_, _, hbox, (by rw [hg]; exact (below_size (zy HB)) : w.heap.size ≤ gb182), HR0.out⟩)); have GW182 := zg HB hg; have GE182 := GW182; have NB181_182 := zl BK181 hg; have NB182_181 := zr BK181 hg; replace BK181 := zb BK181 hb; replace HB := zh HB hb; clear hb hbox hg) | ((with_reducible refine gate_callee (f := 32) rfl ?_); refine zG (some 10) Try.func32 #[.pointer (some ⟨gb182, 0, none⟩), .int .i64 12] ?_; (with_reducible refine (spec_l1Cur_one.calls gb182 l0 0 0 12 true t184 t185 w _ ?side1 ?side2 A2.out).mono ?_); (case side1 => exact zI65 HI182); (case side2 => exact zY65 HB); rintro e w9 ⟨rfl, hi, hb, hk⟩; refine ⟨_, rfl, ?_⟩; replace BK181 := zKB BK181 hk; replace HB := Aside0.mk hb; replace HI182 := Aside0.mk hi; clear hb hk hi) | ((with_reducible refine gate_callee (f := 33) rfl ?_); refine zG (some 12) Try.func33 #[.pointer (some ⟨gb182, 0, none⟩)] ?_; (with_reducible refine (spec_l1Cur_ladders.calls gb182 l0 t184 t185 t186 t187 t188 t189 t190 w _ ?side1 ?side2 A4.out).mono ?_); (case side1 => exact zI65 HI182); (case side2 => exact zY65 HB); rintro e w10 ⟨rfl, hi, hb, hk⟩; refine ⟨_, rfl, ?_⟩; replace BK181 := zKB BK181 hk; replace HB := Aside0.mk hb; replace HI182 := Aside0.mk hi; clear hb hk hi) | ((with_reducible refine gate_dst (N := 14) rfl ?_); refine Kd.R_lit (Kd.int .i64) _ 3 ?hg (N := 14) ?hd (xs := ([(-1), 6, 7] : List Int)) (inner := [.int .i64 (-1), .int .i64 6, .int .i64 7]) (ok := fun _ => True) (okp := fun _ => True) ?hr ?hp (fun _ hk => hk) trivial (Below.refl _ _) (Nat.le_refl _) zO0_2 ?_; (case hd => rfl); (case hg => rfl); (case hr => first | (go_simp; done) | (go_simp; rfl)); (case hp => exact (Reps.one (show Kd.M (Kd.int .i64) _ _ _ (-1) [.int .i64 (-1)] from rfl) (Reps.one (show Kd.M (Kd.int .i64) _ _ _ 6 [.int .i64 6] from rfl) (Reps.one (show Kd.M (Kd.int .i64) _ _ _ 7 [.int .i64 7] from rfl) (Reps.none _ _))))); intro v192 w11 ho12 hb hg_ hnew_; clear hg_ hnew_; (first | rw [← Ny191.out] at ho12 | (simp only [Int.reduceToNat] at ho12; rw [← Ny191.out] at ho12)); have HO193 := Aside0.mk (Kd.R_lower ho12 (below_size (zY65 HB))); replace BK181 := zb BK181 hb; replace HI182 := zJ65 HI182 hb; replace HB := zH65 HB hb; clear hb ho12; obtain ⟨Ao13, co13, eo13⟩ := Kd.R_slice HO193.out; subst eo13) | ((with_reducible refine gate_callee (f := 34) rfl ?_); refine zG (some 15) Try.func34 #[.pointer (some ⟨gb182, 0, none⟩), .slice Ao13 y191.length co13] ?_; (with_reducible refine (spec_l1Cur_among.calls gb182 l0 t189 t190 _ _ y191 t194 t195 t196 w _ ?side1 ?side2 ?side3 ?side4 ?side5 A5.out).mono ?_); (case side1 => exact zI65 HI182); (case side2 => exact zY65 HB); (case side3 => repeat (first | exact (Kd.R_reads' HO193.out).2.2 | (with_reducible refine Kd.C_alloc ?_ _) | (with_reducible refine Kd.C_drewN ?_ _) | (with_reducible refine Kd.C_drew ?_))); (case side4 => exact (Kd.R_reads' HO193.out).2.1); (case side5 => exact far_slice (IsS65.own_ne HI182.out HO193.out (by decide))); rintro e w14 ⟨rfl, hi, hb, hk⟩; refine ⟨_, rfl, ?_⟩; have n1_ := Aside0.mk (Kd.R_mono (Kd.R_keep (IsS65.apart (show IsS65 w _ gb182 l0 t189 t190 from (zI65 HI182)) (zs HO193) (by decide)) hk (fun _ h => h.2)) (fun _ h => h.1)); replace BK181 := zKB BK181 hk; replace HB := Aside0.mk hb; replace HI182 := Aside0.mk hi; clear HO193; have HO193 := n1_; clear n1_; clear hb hk hi) | ((with_reducible refine gate_dst (N := 17) rfl ?_); refine Kd.R_lit (Kd.int .i64) _ 3 ?hg (N := 17) ?hd (xs := ([(-1), 9999, 10000] : List Int)) (inner := [.int .i64 (-1), .int .i64 9999, .int .i64 10000]) (ok := fun _ => True) (okp := fun _ => True) ?hr ?hp (fun _ hk => hk) trivial (Below.refl _ _) (Nat.le_refl _) zO0_2 ?_; (case hd => rfl); (case hg => rfl); (case hr => first | (go_simp; done) | (go_simp; rfl)); (case hp => exact (Reps.one (show Kd.M (Kd.int .i64) _ _ _ (-1) [.int .i64 (-1)] from rfl) (Reps.one (show Kd.M (Kd.int .i64) _ _ _ 9999 [.int .i64 9999] from rfl) (Reps.one (show Kd.M (Kd.int .i64) _ _ _ 10000 [.int .i64 10000] from rfl) (Reps.none _ _))))); intro v198 w15 ho16 hb hg_ hnew_; clear hg_ hnew_; (first | rw [← Ny197.out] at ho16 | (simp only [Int.reduceToNat] at ho16; rw [← Ny197.out] at ho16)); have n0_ := Aside0.mk (Kd.R_elder' (zs HO193) (Kd.R_base ho16) hb); have HO199 := Aside0.mk (Kd.R_lower (Kd.R_new' ho16 (Kd.R_lt (zs HO193))) (below_size (zY65 HB))); replace BK181 := zb BK181 hb; replace HI182 := zJ65 HI182 hb; replace HB := zH65 HB hb; clear HO193; have HO193 := n0_; clear n0_; clear hb ho16; obtain ⟨Ao17, co17, eo17⟩ := Kd.R_slice HO199.out; subst eo17) | ((with_reducible refine gate_callee (f := 34) rfl ?_); refine zG (some 18) Try.func34 #[.pointer (some ⟨gb182, 0, none⟩), .slice Ao17 y197.length co17] ?_; (with_reducible refine (spec_l1Cur_among.calls gb182 l0 t195 t196 _ _ y197 t200 t201 t202 w _ ?side1 ?side2 ?side3 ?side4 ?side5 A6.out).mono ?_); (case side1 => exact zI65 HI182); (case side2 => exact zY65 HB); (case side3 => repeat (first | exact (Kd.R_reads' HO199.out).2.2 | (with_reducible refine Kd.C_alloc ?_ _) | (with_reducible refine Kd.C_drewN ?_ _) | (with_reducible refine Kd.C_drew ?_))); (case side4 => exact (Kd.R_reads' HO199.out).2.1); (case side5 => exact far_slice (IsS65.own_ne HI182.out HO199.out (by decide))); rintro e w18 ⟨rfl, hi, hb, hk⟩; refine ⟨_, rfl, ?_⟩; have n1_ := Aside0.mk (Kd.R_mono (Kd.R_keep (IsS65.apart (show IsS65 w _ gb182 l0 t195 t196 from (zI65 HI182)) (zs HO193) (by decide)) hk (fun _ h => h.2)) (fun _ h => h.1)); have n2_ := Aside0.mk (Kd.R_mono (Kd.R_keep (IsS65.apart (show IsS65 w _ gb182 l0 t195 t196 from (zI65 HI182)) (zs HO199) (by decide)) hk (fun _ h => h.2)) (fun _ h => h.1)); replace BK181 := zKB BK181 hk; replace HB := Aside0.mk hb; replace HI182 := Aside0.mk hi; clear HO193; have HO193 := n1_; clear n1_; clear HO199; have HO199 := n2_; clear n2_; clear hb hk hi; have hnb19 := NB181_182.out; have hnc19 := NB182_181.out; obtain ⟨_, _, _, _, _, _⟩ := zc3 BK181))
  refine bodyPost_ret (results_ctt rfl _ _ gb181 25 #[.int .i64 t186, .int .i64 t187, .int .i64 t188] (0, 0) _ rfl (zw BK181) Try.underlying25 rfl (by kernel_rfl)) rfl ?_
  exact ⟨zt, zY65 HB⟩
 ·replace c3 := Bool.eq_false_iff.mpr c3
  subst c3; rw [if_neg (show ¬ (false = true) by decide)] at H; replace H := Option.bind_eq_some_iff.mp H; obtain ⟨⟨t203, t204, t205, t206, t207⟩, A210, H⟩ := H; (try dsimp only at H); have A21 := Aside0.mk A210; clear A210; replace H := Option.bind_eq_some_iff.mp H; obtain ⟨⟨t208, t209, t210⟩, A220, H⟩ := H
  replace H : ((spec_l1Cur_pick.f l0 t209 t210 10000).bind fun bt211 => (some (t203, t204, t205, t208, bt211.1))) = some (r1, r2, r3, r4, r5) := H
  have A22 := Aside0.mk A220; clear A220; replace H := Option.bind_eq_some_iff.mp H; obtain ⟨⟨t211, t212, t213⟩, A230, H⟩ := H
  replace H : (some (t203, t204, t205, t208, t211)) = some (r1, r2, r3, r4, r5) := H
  have A23 := Aside0.mk A230; clear A230; simp only [Option.some.injEq, Prod.mk.injEq] at H; obtain ⟨rfl, rfl, rfl, rfl, rfl⟩ := H
  go_enter Try.func5, Try.ntmps5
  go_wp2_with (first | ((with_reducible refine gate_dst (N := 2) rfl ?_); refine zE 2 #[.int .i64 0, .int .i64 0, .int .i64 0] 25 ?_; intro gb181 hg w24 hbox hb; have BK181 := Aside0.mk (hbox); have GW181 := zg HB hg; have GE181 := GW181; replace HB := zh HB hb; clear hb hbox hg) | ((with_reducible refine gate_dst (N := 8) rfl ?_); refine zE 8 #[.slice A0 l0.length c0, .int .i64 0, .int .u64 0] 65 ?_; intro gb182 hg w25 hbox hb; have HI182 := Aside0.mk ((show IsS65 w _ gb182 l0 0 0 from ⟨_, _, hbox, (by rw [hg]; exact (below_size (zy HB)) : w.heap.size ≤ gb182), HR0.out⟩)); have GW182 := zg HB hg; have GE182 := GW182; have NB181_182 := zl BK181 hg; have NB182_181 := zr BK181 hg; replace BK181 := zb BK181 hb; replace HB := zh HB hb; clear hb hbox hg) | ((with_reducible refine gate_callee (f := 32) rfl ?_); refine zG (some 10) Try.func32 #[.pointer (some ⟨gb182, 0, none⟩), .int .i64 12] ?_; (with_reducible refine (spec_l1Cur_one.calls gb182 l0 0 0 12 false t184 t185 w _ ?side1 ?side2 A2.out).mono ?_); (case side1 => exact zI65 HI182); (case side2 => exact zY65 HB); rintro e w26 ⟨rfl, hi, hb, hk⟩; refine ⟨_, rfl, ?_⟩; replace BK181 := zKB BK181 hk; replace HB := Aside0.mk hb; replace HI182 := Aside0.mk hi; clear hb hk hi) | ((with_reducible refine gate_callee (f := 35) rfl ?_); refine zG (some 20) Try.func35 #[.pointer (some ⟨gb182, 0, none⟩)] ?_; (with_reducible refine (spec_l1Cur_hidden.calls gb182 l0 t184 t185 t203 t204 t205 t206 t207 w _ ?side1 ?side2 A21.out).mono ?_); (case side1 => exact zI65 HI182); (case side2 => exact zY65 HB); rintro e w27 ⟨rfl, hi, hb, hk⟩; refine ⟨_, rfl, ?_⟩; replace BK181 := zKB BK181 hk; replace HB := Aside0.mk hb; replace HI182 := Aside0.mk hi; clear hb hk hi) | ((with_reducible refine gate_callee (f := 36) rfl ?_); refine zG (some 22) Try.func36 #[.pointer (some ⟨gb182, 0, none⟩), .int .i64 7] ?_; (with_reducible refine (spec_l1Cur_pick.calls gb182 l0 t206 t207 7 t208 t209 t210 w _ ?side1 ?side2 A22.out).mono ?_); (case side1 => exact zI65 HI182); (case side2 => exact zY65 HB); rintro e w28 ⟨rfl, hi, hb, hk⟩; refine ⟨_, rfl, ?_⟩; replace BK181 := zKB BK181 hk; replace HB := Aside0.mk hb; replace HI182 := Aside0.mk hi; clear hb hk hi) | ((with_reducible refine gate_callee (f := 36) rfl ?_); refine zG (some 24) Try.func36 #[.pointer (some ⟨gb182, 0, none⟩), .int .i64 10000] ?_; (with_reducible refine (spec_l1Cur_pick.calls gb182 l0 t209 t210 10000 t211 t212 t213 w _ ?side1 ?side2 A23.out).mono ?_); (case side1 => exact zI65 HI182); (case side2 => exact zY65 HB); rintro e w29 ⟨rfl, hi, hb, hk⟩; refine ⟨_, rfl, ?_⟩; replace BK181 := zKB BK181 hk; replace HB := Aside0.mk hb; replace HI182 := Aside0.mk hi; clear hb hk hi; have hnb30 := NB181_182.out; have hnc30 := NB182_181.out; obtain ⟨_, _, _, _, _, _⟩ := zc3 BK181))
  refine bodyPost_ret (results_ctt rfl _ _ gb181 25 #[.int .i64 t203, .int .i64 t204, .int .i64 t205] (0, 0) _ rfl (zw BK181) Try.underlying25 rfl (by kernel_rfl)) rfl ?_
  exact ⟨zt, zY65 HB⟩


/-! ### impl_within: function 38 -/
def impl_within.f (a0 : Int) (a1 : Int) (a2 : Int) : Option (Bool) := if a0 ≥ a1 then (some (decide (a0 ≤ a2))) else (some false)
set_option maxHeartbeats 8000000 in
set_option maxRecDepth 100000 in
theorem impl_within.calls (a0 : Int) (a1 : Int) (a2 : Int) (r : Bool) (w : World) (h : impl_within.f a0 a1 a2 = some r) :
  Calls Try.prog 38 #[.int .i64 a0, .int .i64 a1, .int .i64 a2] w fun e w' => e = .returned (.bool r) ∧ Drawn0 w w' := by
 have H : (if a0 ≥ a1 then (some (decide (a0 ≤ a2))) else (some false)) = some r := h
 clear h
 by_cases c4 : a0 ≥ a1
 ·rw [if_pos c4] at H
  have c4b0 : decide (a1 ≤ a0) = true := decide_eq_true c4; clear c4
  obtain rfl := Option.some.inj H
  go_enter Try.func38, Try.ntmps38
  go_wp2
  go_ret
  exact ⟨by first | rfl | (simp; done) | (simp [*]; done), by repeat (first | exact Drawn0.refl _ | apply Drawn0.step)⟩
 ·rw [if_neg c4] at H
  have c4b0 : decide (a1 ≤ a0) = false := decide_eq_false c4; clear c4
  obtain rfl := Option.some.inj H
  go_enter Try.func38, Try.ntmps38
  go_wp2
  go_ret
  exact ⟨by first | rfl | (simp; done) | (simp [*]; done), by repeat (first | exact Drawn0.refl _ | apply Drawn0.step)⟩


/-! ### impl_isWide: function 72 -/
def impl_isWide.f (a0 : Int) : Option (Bool) := (impl_within.f a0 1 1000).bind fun t219 => (some t219)
set_option maxHeartbeats 8000000 in
set_option maxRecDepth 100000 in
theorem impl_isWide.calls (a0 : Int) (r : Bool) (w : World) (h : impl_isWide.f a0 = some r) :
  Calls Try.prog 72 #[.int .i64 a0] w fun e w' => e = .returned (.bool r) ∧ Drawn0 w w' := by
 have H : ((impl_within.f a0 1 1000).bind fun t219 => (some t219)) = some r := h
 clear h; replace H := Option.bind_eq_some_iff.mp H; obtain ⟨t219, A20, H⟩ := H
 replace H : (some t219) = some r := H
 have A2 := Aside0.mk A20; clear A20
 obtain rfl := Option.some.inj H
 go_enter Try.func72, Try.ntmps72
 go_wp2_with (first | ((with_reducible refine gate_callee (f := 38) rfl ?_); refine zG (some 4) Try.func38 #[.int .i64 a0, .int .i64 1, .int .i64 1000] ?_; (with_reducible refine (impl_within.calls a0 1 1000 t219 _ A2.out).mono ?_); rintro e w' ⟨rfl, ⟨nd, rfl⟩⟩; refine ⟨_, rfl, ?_⟩))
 go_ret
 exact ⟨by first | rfl | (simp; done) | (simp [*]; done), by repeat (first | exact Drawn0.refl _ | apply Drawn0.step)⟩


/-! ### impl_AreLadders: function 45 -/
def impl_AreLadders.f (a0_0 : Int) (a0_1 : Int) (a0_2 : Int) : Option (Bool) := (impl_isWide.f a0_0).bind fun t221 => (if t221 = true then ((impl_isWide.f a0_1).bind fun t222 => (if t222 = true then ((impl_isWide.f a0_2).bind fun t223 => (some t223)) else (some false))) else (some false))
set_option maxHeartbeats 8000000 in
set_option maxRecDepth 100000 in
theorem impl_AreLadders.calls (a0_0 : Int) (a0_1 : Int) (a0_2 : Int) (r : Bool) (w : World) (h : impl_AreLadders.f a0_0 a0_1 a0_2 = some r) :
  Calls Try.prog 45 #[.agg #[.int .i64 a0_0, .int .i64 a0_1, .int .i64 a0_2]] w fun e w' => e = .returned (.bool r) ∧ Below w.heap.size w w' := by
 have hu25 := Try.underlying25
 have HB := Aside0.mk (Below.refl w.heap.size w)
 have H : ((impl_isWide.f a0_0).bind fun t221 => (if t221 = true then ((impl_isWide.f a0_1).bind fun t222 => (if t222 = true then ((impl_isWide.f a0_2).bind fun t223 => (some t223)) else (some false))) else (some false))) = some r := h
 clear h; replace H := Option.bind_eq_some_iff.mp H; obtain ⟨t221, A20, H⟩ := H; (try dsimp only at H); have A2 := Aside0.mk A20; clear A20
 by_cases c3 : t221 = true
 ·subst c3
  rw [if_pos rfl] at H; replace H := Option.bind_eq_some_iff.mp H; obtain ⟨t222, A40, H⟩ := H
  replace H : (if t222 = true then ((impl_isWide.f a0_2).bind fun t223 => (some t223)) else (some false)) = some r := H
  have A4 := Aside0.mk A40; clear A40
  by_cases c5 : t222 = true
  ·subst c5
   rw [if_pos rfl] at H; replace H := Option.bind_eq_some_iff.mp H; obtain ⟨t223, A60, H⟩ := H
   replace H : (some t223) = some r := H
   have A6 := Aside0.mk A60; clear A60
   obtain rfl := Option.some.inj H
   go_enter Try.func45, Try.ntmps45
   go_wp2_with (first | ((with_reducible refine gate_dst (N := 1) rfl ?_); refine zE 1 #[.int .i64 a0_0, .int .i64 a0_1, .int .i64 a0_2] 25 ?_; intro gb220 hg w7 hbox hb; have BK220 := Aside0.mk (hbox); have GW220 := zg HB hg; have GE220 := GW220; replace HB := zh HB hb; clear hb hbox hg; obtain ⟨_, _, _, _, _, _⟩ := zc3 BK220) | ((with_reducible refine gate_callee (f := 72) rfl ?_); refine zG (some 5) Try.func72 #[.int .i64 a0_0] ?_; (with_reducible refine (impl_isWide.calls a0_0 true _ A2.out).mono ?_); rintro e w' ⟨rfl, ⟨nd, rfl⟩⟩; refine ⟨_, rfl, ?_⟩) | (go_at_call 72; (with_reducible refine (impl_isWide.calls a0_1 true _ A4.out).mono ?_); rintro e w' ⟨rfl, ⟨nd, rfl⟩⟩) | (go_at_call 72; (with_reducible refine (impl_isWide.calls a0_2 t223 _ A6.out).mono ?_); rintro e w' ⟨rfl, ⟨nd, rfl⟩⟩))
   go_ret
   exact ⟨zt, zy HB⟩
  ·replace c5 := Bool.eq_false_iff.mpr c5
   subst c5; rw [if_neg (show ¬ (false = true) by decide)] at H
   obtain rfl := Option.some.inj H
   go_enter Try.func45, Try.ntmps45
   go_wp2_with (first | ((with_reducible refine gate_dst (N := 1) rfl ?_); refine zE 1 #[.int .i64 a0_0, .int .i64 a0_1, .int .i64 a0_2] 25 ?_; intro gb220 hg w9 hbox hb; have BK220 := Aside0.mk (hbox); have GW220 := zg HB hg; have GE220 := GW220; replace HB := zh HB hb; clear hb hbox hg; obtain ⟨_, _, _, _, _, _⟩ := zc3 BK220) | ((with_reducible refine gate_callee (f := 72) rfl ?_); refine zG (some 5) Try.func72 #[.int .i64 a0_0] ?_; (with_reducible refine (impl_isWide.calls a0_0 true _ A2.out).mono ?_); rintro e w' ⟨rfl, ⟨nd, rfl⟩⟩; refine ⟨_, rfl, ?_⟩) | (go_at_call 72; (with_reducible refine (impl_isWide.calls a0_1 false _ A4.out).mono ?_); rintro e w' ⟨rfl, ⟨nd, rfl⟩⟩))
   go_ret
   exact ⟨zt, zy HB⟩
 ·replace c3 := Bool.eq_false_iff.mpr c3
  subst c3; rw [if_neg (show ¬ (false = true) by decide)] at H
  obtain rfl := Option.some.inj H
  go_enter Try.func45, Try.ntmps45
  go_wp2_with (first | ((with_reducible refine gate_dst (N := 1) rfl ?_); refine zE 1 #[.int .i64 a0_0, .int .i64 a0_1, .int .i64 a0_2] 25 ?_; intro gb220 hg w11 hbox hb; have BK220 := Aside0.mk (hbox); have GW220 := zg HB hg; have GE220 := GW220; replace HB := zh HB hb; clear hb hbox hg; obtain ⟨_, _, _, _, _, _⟩ := zc3 BK220) | ((with_reducible refine gate_callee (f := 72) rfl ?_); refine zG (some 5) Try.func72 #[.int .i64 a0_0] ?_; (with_reducible refine (impl_isWide.calls a0_0 false _ A2.out).mono ?_); rintro e w' ⟨rfl, ⟨nd, rfl⟩⟩; refine ⟨_, rfl, ?_⟩))
  go_ret
  exact ⟨zt, zy HB⟩


/-! ### impl_gcd: function 73 -/
def impl_gcd.l0 : Nat → Int → Int → Option (Int)
 | 0, _, _ => none
 | k + 1, x0, x1 => if x1 = 0 then (some (mx x0 (wrap64 (-x0)))) else (impl_gcd.l0 k x1 (Int.tmod x0 x1))
def impl_gcd.f (k : Nat) (a0 : Int) (a1 : Int) : Option (Int) := impl_gcd.l0 k a0 a1
set_option maxHeartbeats 8000000 in
set_option maxRecDepth 100000 in
theorem impl_gcd.calls (k : Nat) (a0 : Int) (a1 : Int) (r : Int) (w : World) (h : impl_gcd.f k a0 a1 = some r) :
  Calls Try.prog 73 #[.int .i64 a0, .int .i64 a1] w fun e w' => e = .returned (.int .i64 r) ∧ Below w.heap.size w w' := by
 have HB := Aside0.mk (Below.refl w.heap.size w)
 have H : (impl_gcd.l0 k a0 a1) = some r := h
 clear h; have H' := Aside0.mk H; clear H
 go_enter Try.func73, Try.ntmps73
 go_wp2
 repeat (go_quiet (fail); try go_wp2)
 go_loopg [0, 1] k (fun kq v0 v1 w' => ∃ (x0_1 : Int) (x1_1 : Int), v0 = .int .i64 x0_1 ∧ v1 = .int .i64 x1_1 ∧ Aside0 (impl_gcd.l0 kq x0_1 x1_1 = some r) ∧ Aside0 (kq ≤ k) ∧ Aside0 (Below w.heap.size w w'))
 case atStart => exact ⟨(a0), (a1), zu, zu, H', ⟨Nat.le_refl _⟩, ⟨zy HB⟩⟩
 case round =>
  clear H'
  obtain ⟨x0_1, x1_1, rfl, rfl, HA, HK1, HB⟩ := hrel
  cases gk with
  | zero => exact absurd HA.out (by simp [impl_gcd.l0])
  | succ k1 =>
   have H := HA.out; clear HA; simp only [impl_gcd.l0] at H
   by_cases c3 : x1_1 = 0
   ·rw [if_pos c3] at H
    have c3b0 : (x1_1 == 0) = true := beq_iff_eq.mpr c3
    have c3b1 : (x1_1 != 0) = false := bne_eq_false_iff_eq.mpr c3
    clear c3
    obtain ⟨ji4, hji4⟩ : ∃ j_ : Int, (mx x0_1 (wrap64 (-x0_1))) = j_ := ⟨_, rfl⟩
    replace H : (some ji4) = some r := by first | (rw [hji4] at H; exact H) | (simp only [hji4] at H ⊢; exact H)
    have hji4_ : (if x0_1 < (wrap64 (-x0_1)) then (wrap64 (-x0_1)) else x0_1) = ji4 := hji4
    obtain rfl := Option.some.inj H
    go_wp2
    repeat (go_quiet (fail); try go_wp2)
    go_ret
    exact ⟨by first | rfl | (simp [errW_none, errW_some] <;> rfl) | (simp only [← hji4]; first | rfl | (simp [errW_none, errW_some] <;> rfl)) | (simp [*, errW_none, errW_some] <;> rfl), zy HB⟩
   ·rw [if_neg c3] at H
    have c3b0 : (x1_1 == 0) = false := beq_eq_false_iff_ne.mpr c3
    have c3b1 : (x1_1 != 0) = true := bne_iff_ne.mpr c3
    have H' := Aside0.mk H; clear H
    go_wp2
    repeat (go_quiet (fail); try go_wp2)
    go_roundg k1
    case measure => have := HK1.out; omega
    case rel => exact ⟨(x1_1), (Int.tmod x0_1 x1_1), zu, zu, H', ⟨by have := HK1.out; omega⟩, ⟨zy HB⟩⟩


/-! ### impl_fraction: function 46 -/
def impl_fraction.f (k : Nat) (a0 : Int) (a1 : Int) : Option (Int × Int × Bool) := (impl_gcd.f k a0 a1).bind fun t224 => (if t224 = 0 then (none) else (some (wrap64 (Int.tdiv a0 t224), wrap64 (Int.tdiv a1 t224), true)))
set_option maxHeartbeats 8000000 in
set_option maxRecDepth 100000 in
theorem impl_fraction.calls (k : Nat) (a0 : Int) (a1 : Int) (r1 : Int) (r2 : Int) (r3 : Bool) (w : World) (h : impl_fraction.f k a0 a1 = some (r1, r2, r3)) :
  Calls Try.prog 46 #[.int .i64 a0, .int .i64 a1] w fun e w' => e = .returned (.tuple #[.int .i64 r1, .int .i64 r2, .bool r3]) ∧ Below w.heap.size w w' := by
 have HB := Aside0.mk (Below.refl w.heap.size w)
 have H : ((impl_gcd.f k a0 a1).bind fun t224 => (if t224 = 0 then (none) else (some (wrap64 (Int.tdiv a0 t224), wrap64 (Int.tdiv a1 t224), true)))) = some (r1, r2, r3) := h
 clear h; replace H := Option.bind_eq_some_iff.mp H; obtain ⟨t224, A30, H⟩ := H
 replace H : (if t224 = 0 then (none) else (some (wrap64 (Int.tdiv a0 t224), wrap64 (Int.tdiv a1 t224), true))) = some (r1, r2, r3) := H
 have A3 := Aside0.mk A30; clear A30
 by_cases c4 : t224 = 0
 ·rw [if_pos c4] at H
  exact absurd H zO0_2
 ·rw [if_neg c4] at H
  have c4b0 : (t224 == 0) = false := beq_eq_false_iff_ne.mpr c4
  have c4b1 : (t224 != 0) = true := bne_iff_ne.mpr c4
  simp only [Option.some.injEq, Prod.mk.injEq] at H; obtain ⟨rfl, rfl, rfl⟩ := H
  go_enter Try.func46, Try.ntmps46
  go_wp2_with (first | (go_at_call 73; (with_reducible refine (impl_gcd.calls k a0 a1 t224 _ A3.out).mono ?_); rintro e w5 ⟨rfl, hb⟩; replace HB := zh HB hb; clear hb))
  repeat (go_quiet (first | (go_at_call 73; (with_reducible refine (impl_gcd.calls k a0 a1 t224 _ A3.out).mono ?_); rintro e w5 ⟨rfl, hb⟩; replace HB := zh HB hb; clear hb)); try go_wp2_with (first | (go_at_call 73; (with_reducible refine (impl_gcd.calls k a0 a1 t224 _ A3.out).mono ?_); rintro e w5 ⟨rfl, hb⟩; replace HB := zh HB hb; clear hb)))
  go_ret3
  exact ⟨zt, zy HB⟩


/-! ### impl_CrossHeight: function 9 -/
def impl_CrossHeight.f (k : Nat) (a0_0 : Int) (a0_1 : Int) (a0_2 : Int) : Option (Int × Int × Bool) := (impl_AreLadders.f a0_0 a0_1 a0_2).bind fun t226 => (if t226 = true then ((impl_fraction.f k (wrap64 (a0_1 * a0_2)) (wrap64 (a0_1 + a0_2))).bind fun bt227 => (some (bt227.1, bt227.2.1, bt227.2.2))) else (some (0, 0, false)))
set_option maxHeartbeats 8000000 in
set_option maxRecDepth 100000 in
theorem impl_CrossHeight.calls (k : Nat) (a0_0 : Int) (a0_1 : Int) (a0_2 : Int) (r1 : Int) (r2 : Int) (r3 : Bool) (w : World) (h : impl_CrossHeight.f k a0_0 a0_1 a0_2 = some (r1, r2, r3)) :
  Calls Try.prog 9 #[.agg #[.int .i64 a0_0, .int .i64 a0_1, .int .i64 a0_2]] w fun e w' => e = .returned (.tuple #[.int .i64 r1, .int .i64 r2, .bool r3]) ∧ Below w.heap.size w w' := by
 have hu25 := Try.underlying25
 have HB := Aside0.mk (Below.refl w.heap.size w)
 have H : ((impl_AreLadders.f a0_0 a0_1 a0_2).bind fun t226 => (if t226 = true then ((impl_fraction.f k (wrap64 (a0_1 * a0_2)) (wrap64 (a0_1 + a0_2))).bind fun bt227 => (some (bt227.1, bt227.2.1, bt227.2.2))) else (some (0, 0, false)))) = some (r1, r2, r3) := h
 clear h; replace H := Option.bind_eq_some_iff.mp H; obtain ⟨t226, A20, H⟩ := H; (try dsimp only at H); have A2 := Aside0.mk A20; clear A20
 by_cases c3 : t226 = true
 ·subst c3
  rw [if_pos rfl] at H; replace H := Option.bind_eq_some_iff.mp H; obtain ⟨⟨t227, t228, t229⟩, A40, H⟩ := H
  replace H : (some (t227, t228, t229)) = some (r1, r2, r3) := H
  have A4 := Aside0.mk A40; clear A40; simp only [Option.some.injEq, Prod.mk.injEq] at H; obtain ⟨rfl, rfl, rfl⟩ := H
  go_enter Try.func9, Try.ntmps9
  go_wp2_with (first | ((with_reducible refine gate_dst (N := 1) rfl ?_); refine zE 1 #[.int .i64 a0_0, .int .i64 a0_1, .int .i64 a0_2] 25 ?_; intro gb225 hg w5 hbox hb; have BK225 := Aside0.mk (hbox); have GW225 := zg HB hg; have GE225 := GW225; replace HB := zh HB hb; clear hb hbox hg; obtain ⟨_, _, _, _, _, _⟩ := zc3 BK225) | ((with_reducible refine gate_callee (f := 45) rfl ?_); refine zG (some 6) Try.func45 #[.agg #[.int .i64 a0_0, .int .i64 a0_1, .int .i64 a0_2]] ?_; (with_reducible refine (impl_AreLadders.calls a0_0 a0_1 a0_2 true _ A2.out).mono ?_); rintro e w7 ⟨rfl, hb⟩; refine ⟨_, rfl, ?_⟩; replace BK225 := zb BK225 hb; replace HB := zh HB hb; clear hb; obtain ⟨_, _, _, _, _, _⟩ := zc3 BK225) | ((with_reducible refine gate_callee (f := 46) rfl ?_); refine zG (some 18) Try.func46 #[.int .i64 (wrap64 (a0_1 * a0_2)), .int .i64 (wrap64 (a0_1 + a0_2))] ?_; (with_reducible refine (impl_fraction.calls k (wrap64 (a0_1 * a0_2)) (wrap64 (a0_1 + a0_2)) t227 t228 t229 _ A4.out).mono ?_); rintro e w9 ⟨rfl, hb⟩; refine ⟨_, rfl, ?_⟩; replace BK225 := zb BK225 hb; replace HB := zh HB hb; clear hb))
  go_ret3
  exact ⟨zt, zy HB⟩
 ·replace c3 := Bool.eq_false_iff.mpr c3
  subst c3; rw [if_neg (show ¬ (false = true) by decide)] at H; simp only [Option.some.injEq, Prod.mk.injEq] at H; obtain ⟨rfl, rfl, rfl⟩ := H
  go_enter Try.func9, Try.ntmps9
  go_wp2_with (first | ((with_reducible refine gate_dst (N := 1) rfl ?_); refine zE 1 #[.int .i64 a0_0, .int .i64 a0_1, .int .i64 a0_2] 25 ?_; intro gb225 hg w10 hbox hb; have BK225 := Aside0.mk (hbox); have GW225 := zg HB hg; have GE225 := GW225; replace HB := zh HB hb; clear hb hbox hg; obtain ⟨_, _, _, _, _, _⟩ := zc3 BK225) | ((with_reducible refine gate_callee (f := 45) rfl ?_); refine zG (some 6) Try.func45 #[.agg #[.int .i64 a0_0, .int .i64 a0_1, .int .i64 a0_2]] ?_; (with_reducible refine (impl_AreLadders.calls a0_0 a0_1 a0_2 false _ A2.out).mono ?_); rintro e w12 ⟨rfl, hb⟩; refine ⟨_, rfl, ?_⟩; replace BK225 := zb BK225 hb; replace HB := zh HB hb; clear hb))
  go_ret3
  exact ⟨zt, zy HB⟩


/-! ### impl_CrossPlace: function 11 -/
def impl_CrossPlace.f (k : Nat) (a0_0 : Int) (a0_1 : Int) (a0_2 : Int) : Option (Int × Int × Bool) := (impl_AreLadders.f a0_0 a0_1 a0_2).bind fun t231 => (if t231 = true then ((impl_fraction.f k (wrap64 (a0_1 * a0_0)) (wrap64 (a0_1 + a0_2))).bind fun bt232 => (some (bt232.1, bt232.2.1, bt232.2.2))) else (some (0, 0, false)))
set_option maxHeartbeats 8000000 in
set_option maxRecDepth 100000 in
theorem impl_CrossPlace.calls (k : Nat) (a0_0 : Int) (a0_1 : Int) (a0_2 : Int) (r1 : Int) (r2 : Int) (r3 : Bool) (w : World) (h : impl_CrossPlace.f k a0_0 a0_1 a0_2 = some (r1, r2, r3)) :
  Calls Try.prog 11 #[.agg #[.int .i64 a0_0, .int .i64 a0_1, .int .i64 a0_2]] w fun e w' => e = .returned (.tuple #[.int .i64 r1, .int .i64 r2, .bool r3]) ∧ Below w.heap.size w w' := by
 have hu25 := Try.underlying25
 have HB := Aside0.mk (Below.refl w.heap.size w)
 have H : ((impl_AreLadders.f a0_0 a0_1 a0_2).bind fun t231 => (if t231 = true then ((impl_fraction.f k (wrap64 (a0_1 * a0_0)) (wrap64 (a0_1 + a0_2))).bind fun bt232 => (some (bt232.1, bt232.2.1, bt232.2.2))) else (some (0, 0, false)))) = some (r1, r2, r3) := h
 clear h; replace H := Option.bind_eq_some_iff.mp H; obtain ⟨t231, A20, H⟩ := H; (try dsimp only at H); have A2 := Aside0.mk A20; clear A20
 by_cases c3 : t231 = true
 ·subst c3
  rw [if_pos rfl] at H; replace H := Option.bind_eq_some_iff.mp H; obtain ⟨⟨t232, t233, t234⟩, A40, H⟩ := H
  replace H : (some (t232, t233, t234)) = some (r1, r2, r3) := H
  have A4 := Aside0.mk A40; clear A40; simp only [Option.some.injEq, Prod.mk.injEq] at H; obtain ⟨rfl, rfl, rfl⟩ := H
  go_enter Try.func11, Try.ntmps11
  go_wp2_with (first | ((with_reducible refine gate_dst (N := 1) rfl ?_); refine zE 1 #[.int .i64 a0_0, .int .i64 a0_1, .int .i64 a0_2] 25 ?_; intro gb230 hg w5 hbox hb; have BK230 := Aside0.mk (hbox); have GW230 := zg HB hg; have GE230 := GW230; replace HB := zh HB hb; clear hb hbox hg; obtain ⟨_, _, _, _, _, _⟩ := zc3 BK230) | ((with_reducible refine gate_callee (f := 45) rfl ?_); refine zG (some 6) Try.func45 #[.agg #[.int .i64 a0_0, .int .i64 a0_1, .int .i64 a0_2]] ?_; (with_reducible refine (impl_AreLadders.calls a0_0 a0_1 a0_2 true _ A2.out).mono ?_); rintro e w7 ⟨rfl, hb⟩; refine ⟨_, rfl, ?_⟩; replace BK230 := zb BK230 hb; replace HB := zh HB hb; clear hb; obtain ⟨_, _, _, _, _, _⟩ := zc3 BK230) | ((with_reducible refine gate_callee (f := 46) rfl ?_); refine zG (some 18) Try.func46 #[.int .i64 (wrap64 (a0_1 * a0_0)), .int .i64 (wrap64 (a0_1 + a0_2))] ?_; (with_reducible refine (impl_fraction.calls k (wrap64 (a0_1 * a0_0)) (wrap64 (a0_1 + a0_2)) t232 t233 t234 _ A4.out).mono ?_); rintro e w9 ⟨rfl, hb⟩; refine ⟨_, rfl, ?_⟩; replace BK230 := zb BK230 hb; replace HB := zh HB hb; clear hb))
  go_ret3
  exact ⟨zt, zy HB⟩
 ·replace c3 := Bool.eq_false_iff.mpr c3
  subst c3; rw [if_neg (show ¬ (false = true) by decide)] at H; simp only [Option.some.injEq, Prod.mk.injEq] at H; obtain ⟨rfl, rfl, rfl⟩ := H
  go_enter Try.func11, Try.ntmps11
  go_wp2_with (first | ((with_reducible refine gate_dst (N := 1) rfl ?_); refine zE 1 #[.int .i64 a0_0, .int .i64 a0_1, .int .i64 a0_2] 25 ?_; intro gb230 hg w10 hbox hb; have BK230 := Aside0.mk (hbox); have GW230 := zg HB hg; have GE230 := GW230; replace HB := zh HB hb; clear hb hbox hg; obtain ⟨_, _, _, _, _, _⟩ := zc3 BK230) | ((with_reducible refine gate_callee (f := 45) rfl ?_); refine zG (some 6) Try.func45 #[.agg #[.int .i64 a0_0, .int .i64 a0_1, .int .i64 a0_2]] ?_; (with_reducible refine (impl_AreLadders.calls a0_0 a0_1 a0_2 false _ A2.out).mono ?_); rintro e w12 ⟨rfl, hb⟩; refine ⟨_, rfl, ?_⟩; replace BK230 := zb BK230 hb; replace HB := zh HB hb; clear hb))
  go_ret3
  exact ⟨zt, zy HB⟩


/-! ### impl_isSmall: function 51 -/
def impl_isSmall.f (a0 : Int) : Option (Bool) := (impl_within.f a0 1 12).bind fun t214 => (some t214)
set_option maxHeartbeats 8000000 in
set_option maxRecDepth 100000 in
theorem impl_isSmall.calls (a0 : Int) (r : Bool) (w : World) (h : impl_isSmall.f a0 = some r) :
  Calls Try.prog 51 #[.int .i64 a0] w fun e w' => e = .returned (.bool r) ∧ Drawn0 w w' := by
 have H : ((impl_within.f a0 1 12).bind fun t214 => (some t214)) = some r := h
 clear h; replace H := Option.bind_eq_some_iff.mp H; obtain ⟨t214, A20, H⟩ := H
 replace H : (some t214) = some r := H
 have A2 := Aside0.mk A20; clear A20
 obtain rfl := Option.some.inj H
 go_enter Try.func51, Try.ntmps51
 go_wp2_with (first | ((with_reducible refine gate_callee (f := 38) rfl ?_); refine zG (some 4) Try.func38 #[.int .i64 a0, .int .i64 1, .int .i64 12] ?_; (with_reducible refine (impl_within.calls a0 1 12 t214 _ A2.out).mono ?_); rintro e w' ⟨rfl, ⟨nd, rfl⟩⟩; refine ⟨_, rfl, ?_⟩))
 go_ret
 exact ⟨by first | rfl | (simp; done) | (simp [*]; done), by repeat (first | exact Drawn0.refl _ | apply Drawn0.step)⟩


/-! ### impl_areHidden: function 37 -/
def impl_areHidden.f (a0_0 : Int) (a0_1 : Int) (a0_2 : Int) : Option (Bool) := (impl_isSmall.f a0_0).bind fun t216 => (if t216 = true then ((impl_isSmall.f a0_1).bind fun t217 => (if t217 = true then ((impl_isSmall.f a0_2).bind fun t218 => (some t218)) else (some false))) else (some false))
set_option maxHeartbeats 8000000 in
set_option maxRecDepth 100000 in
theorem impl_areHidden.calls (a0_0 : Int) (a0_1 : Int) (a0_2 : Int) (r : Bool) (w : World) (h : impl_areHidden.f a0_0 a0_1 a0_2 = some r) :
  Calls Try.prog 37 #[.agg #[.int .i64 a0_0, .int .i64 a0_1, .int .i64 a0_2]] w fun e w' => e = .returned (.bool r) ∧ Below w.heap.size w w' := by
 have hu25 := Try.underlying25
 have HB := Aside0.mk (Below.refl w.heap.size w)
 have H : ((impl_isSmall.f a0_0).bind fun t216 => (if t216 = true then ((impl_isSmall.f a0_1).bind fun t217 => (if t217 = true then ((impl_isSmall.f a0_2).bind fun t218 => (some t218)) else (some false))) else (some false))) = some r := h
 clear h; replace H := Option.bind_eq_some_iff.mp H; obtain ⟨t216, A20, H⟩ := H; (try dsimp only at H); have A2 := Aside0.mk A20; clear A20
 by_cases c3 : t216 = true
 ·subst c3
  rw [if_pos rfl] at H; replace H := Option.bind_eq_some_iff.mp H; obtain ⟨t217, A40, H⟩ := H
  replace H : (if t217 = true then ((impl_isSmall.f a0_2).bind fun t218 => (some t218)) else (some false)) = some r := H
  have A4 := Aside0.mk A40; clear A40
  by_cases c5 : t217 = true
  ·subst c5
   rw [if_pos rfl] at H; replace H := Option.bind_eq_some_iff.mp H; obtain ⟨t218, A60, H⟩ := H
   replace H : (some t218) = some r := H
   have A6 := Aside0.mk A60; clear A60
   obtain rfl := Option.some.inj H
   go_enter Try.func37, Try.ntmps37
   go_wp2_with (first | ((with_reducible refine gate_dst (N := 1) rfl ?_); refine zE 1 #[.int .i64 a0_0, .int .i64 a0_1, .int .i64 a0_2] 25 ?_; intro gb215 hg w7 hbox hb; have BK215 := Aside0.mk (hbox); have GW215 := zg HB hg; have GE215 := GW215; replace HB := zh HB hb; clear hb hbox hg; obtain ⟨_, _, _, _, _, _⟩ := zc3 BK215) | ((with_reducible refine gate_callee (f := 51) rfl ?_); refine zG (some 5) Try.func51 #[.int .i64 a0_0] ?_; (with_reducible refine (impl_isSmall.calls a0_0 true _ A2.out).mono ?_); rintro e w' ⟨rfl, ⟨nd, rfl⟩⟩; refine ⟨_, rfl, ?_⟩) | (go_at_call 51; (with_reducible refine (impl_isSmall.calls a0_1 true _ A4.out).mono ?_); rintro e w' ⟨rfl, ⟨nd, rfl⟩⟩) | (go_at_call 51; (with_reducible refine (impl_isSmall.calls a0_2 t218 _ A6.out).mono ?_); rintro e w' ⟨rfl, ⟨nd, rfl⟩⟩))
   go_ret
   exact ⟨zt, zy HB⟩
  ·replace c5 := Bool.eq_false_iff.mpr c5
   subst c5; rw [if_neg (show ¬ (false = true) by decide)] at H
   obtain rfl := Option.some.inj H
   go_enter Try.func37, Try.ntmps37
   go_wp2_with (first | ((with_reducible refine gate_dst (N := 1) rfl ?_); refine zE 1 #[.int .i64 a0_0, .int .i64 a0_1, .int .i64 a0_2] 25 ?_; intro gb215 hg w9 hbox hb; have BK215 := Aside0.mk (hbox); have GW215 := zg HB hg; have GE215 := GW215; replace HB := zh HB hb; clear hb hbox hg; obtain ⟨_, _, _, _, _, _⟩ := zc3 BK215) | ((with_reducible refine gate_callee (f := 51) rfl ?_); refine zG (some 5) Try.func51 #[.int .i64 a0_0] ?_; (with_reducible refine (impl_isSmall.calls a0_0 true _ A2.out).mono ?_); rintro e w' ⟨rfl, ⟨nd, rfl⟩⟩; refine ⟨_, rfl, ?_⟩) | (go_at_call 51; (with_reducible refine (impl_isSmall.calls a0_1 false _ A4.out).mono ?_); rintro e w' ⟨rfl, ⟨nd, rfl⟩⟩))
   go_ret
   exact ⟨zt, zy HB⟩
 ·replace c3 := Bool.eq_false_iff.mpr c3
  subst c3; rw [if_neg (show ¬ (false = true) by decide)] at H
  obtain rfl := Option.some.inj H
  go_enter Try.func37, Try.ntmps37
  go_wp2_with (first | ((with_reducible refine gate_dst (N := 1) rfl ?_); refine zE 1 #[.int .i64 a0_0, .int .i64 a0_1, .int .i64 a0_2] 25 ?_; intro gb215 hg w11 hbox hb; have BK215 := Aside0.mk (hbox); have GW215 := zg HB hg; have GE215 := GW215; replace HB := zh HB hb; clear hb hbox hg; obtain ⟨_, _, _, _, _, _⟩ := zc3 BK215) | ((with_reducible refine gate_callee (f := 51) rfl ?_); refine zG (some 5) Try.func51 #[.int .i64 a0_0] ?_; (with_reducible refine (impl_isSmall.calls a0_0 false _ A2.out).mono ?_); rintro e w' ⟨rfl, ⟨nd, rfl⟩⟩; refine ⟨_, rfl, ?_⟩))
  go_ret
  exact ⟨zt, zy HB⟩


/-! ### impl_rootOf: function 50 -/
mutual
def impl_rootOf.l0 : Nat → Int → Int → Int → Option (Int × Bool)
 | 0, _, _, _ => none
 | k + 1, x0, x4, x5 => if (wrap64 (x5 * x5)) < x0 then (impl_rootOf.l0 k x0 x4 (wrap64 (x5 * 2))) else (impl_rootOf.l1 k x0 x4 x5)
def impl_rootOf.l1 : Nat → Int → Int → Int → Option (Int × Bool)
 | 0, _, _, _ => none
 | k + 1, x0, x4, x5 => if x4 < x5 then (if (wrap64 ((wrap64 (Int.tdiv (wrap64 (x4 + x5)) 2)) * (wrap64 (Int.tdiv (wrap64 (x4 + x5)) 2)))) < x0 then (impl_rootOf.l1 k x0 (wrap64 ((wrap64 (Int.tdiv (wrap64 (x4 + x5)) 2)) + 1)) x5) else (impl_rootOf.l1 k x0 x4 (wrap64 (Int.tdiv (wrap64 (x4 + x5)) 2)))) else (some (x4, ((wrap64 (x4 * x4)) == x0)))
end
def impl_rootOf.f (k : Nat) (a0 : Int) : Option (Int × Bool) := impl_rootOf.l0 k a0 0 1
set_option maxHeartbeats 8000000 in
set_option maxRecDepth 100000 in
theorem impl_rootOf.calls (k : Nat) (a0 : Int) (r1 : Int) (r2 : Bool) (w : World) (h : impl_rootOf.f k a0 = some (r1, r2)) :
  Calls Try.prog 50 #[.int .i64 a0] w fun e w' => e = .returned (.tuple #[.int .i64 r1, .bool r2]) ∧ Drawn0 w w' := by
 have H : (impl_rootOf.l0 k a0 0 1) = some (r1, r2) := h
 clear h; have H' := Aside0.mk H; clear H
 go_enter Try.func50, Try.ntmps50
 go_wp2
 go_loopg [5] k (fun kq v5 w' => ∃ (x5_1 : Int), v5 = .int .i64 x5_1 ∧ Aside0 (impl_rootOf.l0 kq a0 0 x5_1 = some (r1, r2)) ∧ Aside0 (kq ≤ k) ∧ Drawn0 w w')
 case atStart => exact ⟨(1), zu, H', ⟨Nat.le_refl _⟩, by repeat (first | exact Drawn0.refl _ | apply Drawn0.step)⟩
 case round =>
  clear H'
  obtain ⟨x5_1, rfl, HA, HK1, ⟨m1, rfl⟩⟩ := hrel
  cases gk with
  | zero => exact absurd HA.out (by simp [impl_rootOf.l0])
  | succ k1 =>
   have H := HA.out; clear HA; simp only [impl_rootOf.l0] at H
   by_cases c2 : (wrap64 (x5_1 * x5_1)) < a0
   ·rw [if_pos c2] at H
    have c2b0 : decide ((wrap64 (x5_1 * x5_1)) < a0) = true := decide_eq_true c2; clear c2; have H' := Aside0.mk H; clear H
    go_wp2
    go_roundg k1
    case measure => have := HK1.out; omega
    case rel => exact ⟨(wrap64 (x5_1 * 2)), zu, H', ⟨by have := HK1.out; omega⟩, by repeat (first | exact Drawn0.refl _ | apply Drawn0.step)⟩
   ·rw [if_neg c2] at H
    have c2b0 : decide ((wrap64 (x5_1 * x5_1)) < a0) = false := decide_eq_false c2; clear c2; have H' := Aside0.mk H; clear H
    go_wp2
    go_loopg [4, 5] k1 (fun kq v4 v5 w' => ∃ (x4_2 : Int) (x5_2 : Int), v4 = .int .i64 x4_2 ∧ v5 = .int .i64 x5_2 ∧ Aside0 (impl_rootOf.l1 kq a0 x4_2 x5_2 = some (r1, r2)) ∧ Aside0 (kq ≤ k1) ∧ Drawn0 w w')
    case atStart => exact ⟨(0), (x5_1), zu, zu, H', ⟨Nat.le_refl _⟩, by repeat (first | exact Drawn0.refl _ | apply Drawn0.step)⟩
    case round =>
     clear H'
     obtain ⟨x4_2, x5_2, rfl, rfl, HA, HK2, ⟨m2, rfl⟩⟩ := hrel
     cases gk with
     | zero => exact absurd HA.out (by simp [impl_rootOf.l1])
     | succ k2 =>
      have H := HA.out; clear HA; simp only [impl_rootOf.l1] at H
      by_cases c3 : x4_2 < x5_2
      ·rw [if_pos c3] at H
       have c3b0 : decide (x4_2 < x5_2) = true := decide_eq_true c3; clear c3
       by_cases c4 : (wrap64 ((wrap64 (Int.tdiv (wrap64 (x4_2 + x5_2)) 2)) * (wrap64 (Int.tdiv (wrap64 (x4_2 + x5_2)) 2)))) < a0
       ·rw [if_pos c4] at H
        have c4b0 : decide ((wrap64 ((wrap64 (Int.tdiv (wrap64 (x4_2 + x5_2)) 2)) * (wrap64 (Int.tdiv (wrap64 (x4_2 + x5_2)) 2)))) < a0) = true := decide_eq_true c4; clear c4; have H' := Aside0.mk H; clear H
        go_wp2
        go_roundg k2
        case measure => have := HK1.out; have := HK2.out; omega
        case rel => exact ⟨(wrap64 ((wrap64 (Int.tdiv (wrap64 (x4_2 + x5_2)) 2)) + 1)), (x5_2), zu, zu, H', ⟨by have := HK1.out; have := HK2.out; omega⟩, by repeat (first | exact Drawn0.refl _ | apply Drawn0.step)⟩
       ·rw [if_neg c4] at H
        have c4b0 : decide ((wrap64 ((wrap64 (Int.tdiv (wrap64 (x4_2 + x5_2)) 2)) * (wrap64 (Int.tdiv (wrap64 (x4_2 + x5_2)) 2)))) < a0) = false := decide_eq_false c4; clear c4; have H' := Aside0.mk H; clear H
        go_wp2
        go_roundg k2
        case measure => have := HK1.out; have := HK2.out; omega
        case rel => exact ⟨(x4_2), (wrap64 (Int.tdiv (wrap64 (x4_2 + x5_2)) 2)), zu, zu, H', ⟨by have := HK1.out; have := HK2.out; omega⟩, by repeat (first | exact Drawn0.refl _ | apply Drawn0.step)⟩
      ·rw [if_neg c3] at H
       have c3b0 : decide (x4_2 < x5_2) = false := decide_eq_false c3; clear c3; simp only [Option.some.injEq, Prod.mk.injEq] at H; obtain ⟨rfl, rfl⟩ := H
       go_wp2
       go_ret2
       exact ⟨by first | rfl | (simp; done) | (simp [*]; done), by repeat (first | exact Drawn0.refl _ | apply Drawn0.step)⟩


/-! ### impl_asNumber: function 69 -/
def impl_asNumber.f (a0 : Bool) : Option (Int) := if a0 = true then (some 1) else (some 0)
set_option maxHeartbeats 8000000 in
set_option maxRecDepth 100000 in
theorem impl_asNumber.calls (a0 : Bool) (r : Int) (w : World) (h : impl_asNumber.f a0 = some r) :
  Calls Try.prog 69 #[.bool a0] w fun e w' => e = .returned (.int .i64 r) ∧ Drawn0 w w' := by
 have H : (if a0 = true then (some 1) else (some 0)) = some r := h
 clear h
 by_cases c2 : a0 = true
 ·subst c2
  rw [if_pos rfl] at H
  obtain rfl := Option.some.inj H
  go_enter Try.func69, Try.ntmps69
  go_wp2
  go_ret
  exact ⟨by first | rfl | (simp; done) | (simp [*]; done), by repeat (first | exact Drawn0.refl _ | apply Drawn0.step)⟩
 ·replace c2 := Bool.eq_false_iff.mpr c2
  subst c2; rw [if_neg (show ¬ (false = true) by decide)] at H
  obtain rfl := Option.some.inj H
  go_enter Try.func69, Try.ntmps69
  go_wp2
  go_ret
  exact ⟨by first | rfl | (simp; done) | (simp [*]; done), by repeat (first | exact Drawn0.refl _ | apply Drawn0.step)⟩


/-! ### impl_square: function 70 -/
def impl_square.f (a0 : Int) (a1 : Int) : Option (Int) := some (wrap64 ((wrap64 (a0 * a0)) + (wrap64 (a1 * a1))))
set_option maxHeartbeats 8000000 in
set_option maxRecDepth 100000 in
theorem impl_square.calls (a0 : Int) (a1 : Int) (r : Int) (w : World) (h : impl_square.f a0 a1 = some r) :
  Calls Try.prog 70 #[.int .i64 a0, .int .i64 a1] w fun e w' => e = .returned (.int .i64 r) ∧ Drawn0 w w' := by
 have H : (some (wrap64 ((wrap64 (a0 * a0)) + (wrap64 (a1 * a1))))) = some r := h
 clear h
 obtain rfl := Option.some.inj H
 go_enter Try.func70, Try.ntmps70
 go_wp2
 go_ret
 exact ⟨by first | rfl | (simp; done) | (simp [*]; done), by repeat (first | exact Drawn0.refl _ | apply Drawn0.step)⟩


/-! ### impl_told_above: function 0 -/
/-- A cell that is written twice. -/
theorem cell_twice (w : World) (a : Addr) (u v : Value) (h : (w.cell? a).isSome = true) : ((w.setCell a u).setCell a v).cell? a = some v := by
 obtain ⟨x, hx⟩ := Option.isSome_iff_exists.1 h
 exact World.cell?_setCell_same _ a v (World.cell?_setCell_same w a u hx)
theorem cell_twiceD (w : World) (a : Addr) (u v : Value) (n : Nat) (h : (w.cell? a).isSome = true) : (((w.setCell a u).drewN n).setCell a v).cell? a = some v := by
 obtain ⟨x, hx⟩ := Option.isSome_iff_exists.1 h
 exact World.cell?_setCell_same _ a v (show ((w.setCell a u).drewN n).cell? a = some u from World.cell?_setCell_same w a u hx)



/-! ### impl_told: function 40 -/
attribute [local go_sem] cell_twice cell_twiceD
def impl_told.f (k : Nat) (a0_0 : Int) (a0_1 : Int) (a0_2 : Int) (a1 : Int) (a2 : Int) : Option (Int × Int × Int) := if a1 = 0 then (some (a1, 0, wrap64 (a0_1 + a0_2))) else (if a1 = 1 then ((impl_asNumber.f (decide (a0_1 > a0_2))).bind fun t238 => (some (a1, 0, t238))) else (if a1 = 2 then ((impl_CrossHeight.f k a0_0 a0_1 a0_2).bind fun bt239 => (some (a1, bt239.1, bt239.2.1))) else (if a1 = 3 then ((some (([a0_1, a0_2] : List Int) : List Int)).bind fun y242 => (if 0 ≤ a2 then (if a2 < (y242.length : Int) then ((impl_square.f a0_0 (rd y242 a2)).bind fun t246 => ((impl_rootOf.f k t246).bind fun bt247 => ((impl_asNumber.f bt247.2).bind fun t249 => (some (a1, a2, t249))))) else (none)) else (none))) else (if a1 = 4 then ((impl_CrossPlace.f k a0_0 a0_1 a0_2).bind fun bt250 => (some (a1, bt250.1, bt250.2.1))) else (if a1 = 5 then (some (a1, 0, wrap64 (a0_1 * a0_2))) else (some (a1, 0, 0)))))))
set_option maxHeartbeats 8000000 in
set_option maxRecDepth 100000 in
theorem impl_told.calls (k : Nat) (a0_0 : Int) (a0_1 : Int) (a0_2 : Int) (a1 : Int) (a2 : Int) (r1 : Int) (r2 : Int) (r3 : Int) (w : World) (h : impl_told.f k a0_0 a0_1 a0_2 a1 a2 = some (r1, r2, r3)) :
  Calls Try.prog 40 #[.agg #[.int .i64 a0_0, .int .i64 a0_1, .int .i64 a0_2], .int .i64 a1, .int .i64 a2] w fun e w' => e = .returned (.agg #[.int .i64 r1, .int .i64 r2, .int .i64 r3]) ∧ Below w.heap.size w w' := by
 have hu25 := Try.underlying25; have hu39 := Try.underlying39
 have HB := Aside0.mk (Below.refl w.heap.size w)
 have H : (if a1 = 0 then (some (a1, 0, wrap64 (a0_1 + a0_2))) else (if a1 = 1 then ((impl_asNumber.f (decide (a0_1 > a0_2))).bind fun t238 => (some (a1, 0, t238))) else (if a1 = 2 then ((impl_CrossHeight.f k a0_0 a0_1 a0_2).bind fun bt239 => (some (a1, bt239.1, bt239.2.1))) else (if a1 = 3 then ((some (([a0_1, a0_2] : List Int) : List Int)).bind fun y242 => (if 0 ≤ a2 then (if a2 < (y242.length : Int) then ((impl_square.f a0_0 (rd y242 a2)).bind fun t246 => ((impl_rootOf.f k t246).bind fun bt247 => ((impl_asNumber.f bt247.2).bind fun t249 => (some (a1, a2, t249))))) else (none)) else (none))) else (if a1 = 4 then ((impl_CrossPlace.f k a0_0 a0_1 a0_2).bind fun bt250 => (some (a1, bt250.1, bt250.2.1))) else (if a1 = 5 then (some (a1, 0, wrap64 (a0_1 * a0_2))) else (some (a1, 0, 0)))))))) = some (r1, r2, r3) := h
 clear h
 by_cases c4 : a1 = 0
 ·rw [if_pos c4] at H
  have c4b0 : (a1 == 0) = true := beq_iff_eq.mpr c4
  have c4b1 : (a1 != 0) = false := bne_eq_false_iff_eq.mpr c4
  clear c4; simp only [Option.some.injEq, Prod.mk.injEq] at H; obtain ⟨rfl, rfl, rfl⟩ := H
  go_enter Try.func40, Try.ntmps40
  go_wp2_with (first | ((with_reducible refine gate_dst (N := 3) rfl ?_); refine zE 3 #[.int .i64 a0_0, .int .i64 a0_1, .int .i64 a0_2] 25 ?_; intro gb235 hg w5 hbox hb; have BK235 := Aside0.mk (hbox); have GW235 := zg HB hg; have GE235 := GW235; replace HB := zh HB hb; clear hb hbox hg) | ((with_reducible refine gate_dst (N := 6) rfl ?_); refine zE 6 #[.int .i64 0, .int .i64 0, .int .i64 0] 39 ?_; intro gb236 hg w6 hbox hb; have BK236 := Aside0.mk (hbox); have GW236 := zg HB hg; have GE236 := GW236; have NB235_236 := zl BK235 hg; have NB236_235 := zr BK235 hg; replace BK235 := zb BK235 hb; replace HB := zh HB hb; clear hb hbox hg) | ((with_reducible refine gate_dst (N := 7) rfl ?_); refine zE 7 #[.int .i64 0, .int .i64 0, .int .i64 0] 39 ?_; intro gb237 hg w7 hbox hb; have BK237 := Aside0.mk (hbox); have GW237 := zg HB hg; have GE237 := GW237; have NB235_237 := zl BK235 hg; have NB237_235 := zr BK235 hg; have NB236_237 := zl BK236 hg; have NB237_236 := zr BK236 hg; replace BK235 := zb BK235 hb; replace BK236 := zb BK236 hb; replace HB := zh HB hb; clear hb hbox hg; have hnb8 := NB237_235.out; have hnc8 := NB235_237.out; have hnb9 := NB237_236.out; have hnc9 := NB236_237.out; obtain ⟨_, _, _, _, _, _⟩ := zc3 BK237; have hnb11 := NB235_236.out; have hnc11 := NB236_235.out; obtain ⟨_, _, _, _, _, _⟩ := zc3 BK235; obtain ⟨_, _, _, _, _, _⟩ := zc3 BK236))
  refine bodyPost_ret (results_cell_row rfl _ _ gb236 39 #[.int .i64 a1, .int .i64 0, .int .i64 (wrap64 (a0_1 + a0_2))] (0, 0) _ rfl (zw BK236) Try.underlying39 rfl (by kernel_rfl)) rfl ?_
  exact ⟨zt, zy HB⟩
 ·rw [if_neg c4] at H
  have c4b0 : (a1 == 0) = false := beq_eq_false_iff_ne.mpr c4
  have c4b1 : (a1 != 0) = true := bne_iff_ne.mpr c4
  by_cases c14 : a1 = 1
  ·rw [if_pos c14] at H
   have c14b0 : (a1 == 1) = true := beq_iff_eq.mpr c14
   have c14b1 : (a1 != 1) = false := bne_eq_false_iff_eq.mpr c14
   clear c14; replace H := Option.bind_eq_some_iff.mp H; obtain ⟨t238, A150, H⟩ := H
   replace H : (some (a1, 0, t238)) = some (r1, r2, r3) := H
   have A15 := Aside0.mk A150; clear A150; simp only [Option.some.injEq, Prod.mk.injEq] at H; obtain ⟨rfl, rfl, rfl⟩ := H
   go_enter Try.func40, Try.ntmps40
   go_wp2_with (first | ((with_reducible refine gate_dst (N := 3) rfl ?_); refine zE 3 #[.int .i64 a0_0, .int .i64 a0_1, .int .i64 a0_2] 25 ?_; intro gb235 hg w16 hbox hb; have BK235 := Aside0.mk (hbox); have GW235 := zg HB hg; have GE235 := GW235; replace HB := zh HB hb; clear hb hbox hg) | ((with_reducible refine gate_dst (N := 6) rfl ?_); refine zE 6 #[.int .i64 0, .int .i64 0, .int .i64 0] 39 ?_; intro gb236 hg w17 hbox hb; have BK236 := Aside0.mk (hbox); have GW236 := zg HB hg; have GE236 := GW236; have NB235_236 := zl BK235 hg; have NB236_235 := zr BK235 hg; replace BK235 := zb BK235 hb; replace HB := zh HB hb; clear hb hbox hg) | ((with_reducible refine gate_dst (N := 7) rfl ?_); refine zE 7 #[.int .i64 0, .int .i64 0, .int .i64 0] 39 ?_; intro gb237 hg w18 hbox hb; have BK237 := Aside0.mk (hbox); have GW237 := zg HB hg; have GE237 := GW237; have NB235_237 := zl BK235 hg; have NB237_235 := zr BK235 hg; have NB236_237 := zl BK236 hg; have NB237_236 := zr BK236 hg; replace BK235 := zb BK235 hb; replace BK236 := zb BK236 hb; replace HB := zh HB hb; clear hb hbox hg; have hnb19 := NB237_235.out; have hnc19 := NB235_237.out; have hnb20 := NB237_236.out; have hnc20 := NB236_237.out; obtain ⟨_, _, _, _, _, _⟩ := zc3 BK237; have hnb22 := NB235_236.out; have hnc22 := NB236_235.out; obtain ⟨_, _, _, _, _, _⟩ := zc3 BK235) | ((with_reducible refine gate_callee (f := 69) rfl ?_); refine zG (some 29) Try.func69 #[.bool (decide (a0_1 > a0_2))] ?_; (with_reducible refine (impl_asNumber.calls (decide (a0_1 > a0_2)) t238 _ A15.out).mono ?_); rintro e w' ⟨rfl, ⟨nd, rfl⟩⟩; refine ⟨_, rfl, ?_⟩; obtain ⟨_, _, _, _, _, _⟩ := zc3 BK236))
   refine bodyPost_ret (results_cell_row rfl _ _ gb236 39 #[.int .i64 a1, .int .i64 0, .int .i64 t238] (0, 0) _ rfl (zw BK236) Try.underlying39 rfl (by kernel_rfl)) rfl ?_
   exact ⟨zt, zy HB⟩
  ·rw [if_neg c14] at H
   have c14b0 : (a1 == 1) = false := beq_eq_false_iff_ne.mpr c14
   have c14b1 : (a1 != 1) = true := bne_iff_ne.mpr c14
   by_cases c25 : a1 = 2
   ·rw [if_pos c25] at H
    have c25b0 : (a1 == 2) = true := beq_iff_eq.mpr c25
    have c25b1 : (a1 != 2) = false := bne_eq_false_iff_eq.mpr c25
    clear c25; replace H := Option.bind_eq_some_iff.mp H; obtain ⟨⟨t239, t240, t241⟩, A260, H⟩ := H
    replace H : (some (a1, t239, t240)) = some (r1, r2, r3) := H
    have A26 := Aside0.mk A260; clear A260; simp only [Option.some.injEq, Prod.mk.injEq] at H; obtain ⟨rfl, rfl, rfl⟩ := H
    go_enter Try.func40, Try.ntmps40
    go_wp2_with (first | ((with_reducible refine gate_dst (N := 3) rfl ?_); refine zE 3 #[.int .i64 a0_0, .int .i64 a0_1, .int .i64 a0_2] 25 ?_; intro gb235 hg w27 hbox hb; have BK235 := Aside0.mk (hbox); have GW235 := zg HB hg; have GE235 := GW235; replace HB := zh HB hb; clear hb hbox hg) | ((with_reducible refine gate_dst (N := 6) rfl ?_); refine zE 6 #[.int .i64 0, .int .i64 0, .int .i64 0] 39 ?_; intro gb236 hg w28 hbox hb; have BK236 := Aside0.mk (hbox); have GW236 := zg HB hg; have GE236 := GW236; have NB235_236 := zl BK235 hg; have NB236_235 := zr BK235 hg; replace BK235 := zb BK235 hb; replace HB := zh HB hb; clear hb hbox hg) | ((with_reducible refine gate_dst (N := 7) rfl ?_); refine zE 7 #[.int .i64 0, .int .i64 0, .int .i64 0] 39 ?_; intro gb237 hg w29 hbox hb; have BK237 := Aside0.mk (hbox); have GW237 := zg HB hg; have GE237 := GW237; have NB235_237 := zl BK235 hg; have NB237_235 := zr BK235 hg; have NB236_237 := zl BK236 hg; have NB237_236 := zr BK236 hg; replace BK235 := zb BK235 hb; replace BK236 := zb BK236 hb; replace HB := zh HB hb; clear hb hbox hg; have hnb30 := NB237_235.out; have hnc30 := NB235_237.out; have hnb31 := NB237_236.out; have hnc31 := NB236_237.out; obtain ⟨_, _, _, _, _, _⟩ := zc3 BK237; have hnb33 := NB235_236.out; have hnc33 := NB236_235.out; obtain ⟨_, _, _, _, _, _⟩ := zc3 BK235) | ((with_reducible refine gate_callee (f := 9) rfl ?_); refine zG (some 35) Try.func9 #[.agg #[.int .i64 a0_0, .int .i64 a0_1, .int .i64 a0_2]] ?_; (with_reducible refine (impl_CrossHeight.calls k a0_0 a0_1 a0_2 t239 t240 t241 _ A26.out).mono ?_); rintro e w35 ⟨rfl, hb⟩; refine ⟨_, rfl, ?_⟩; have n2_ := Aside0.mk (blk_below (g := gb237) (o := .cells #[.int .i64 a1, .int .i64 0, .int .i64 0] 39 (0, 0)) (zw BK237) hb); replace BK235 := zb BK235 hb; replace BK236 := zb BK236 hb; replace HB := zh HB hb; clear BK237; have BK237 := n2_; clear n2_; clear hb; obtain ⟨_, _, _, _, _, _⟩ := zc3 BK237; obtain ⟨_, _, _, _, _, _⟩ := zc3 BK236))
    refine bodyPost_ret (results_cell_row rfl _ _ gb236 39 #[.int .i64 a1, .int .i64 t239, .int .i64 t240] (0, 0) _ rfl (zw BK236) Try.underlying39 rfl (by kernel_rfl)) rfl ?_
    exact ⟨zt, zy HB⟩
   ·rw [if_neg c25] at H
    have c25b0 : (a1 == 2) = false := beq_eq_false_iff_ne.mpr c25
    have c25b1 : (a1 != 2) = true := bne_iff_ne.mpr c25
    by_cases c38 : a1 = 3
    ·rw [if_pos c38] at H
     have c38b0 : (a1 == 3) = true := beq_iff_eq.mpr c38
     have c38b1 : (a1 != 3) = false := bne_eq_false_iff_eq.mpr c38
     clear c38
     obtain ⟨y242, hy242⟩ : ∃ y_ : List Int, y_ = (([a0_1, a0_2] : List Int)) := ⟨_, rfl⟩
     replace H : (if 0 ≤ a2 then (if a2 < (y242.length : Int) then ((impl_square.f a0_0 (rd y242 a2)).bind fun t246 => ((impl_rootOf.f k t246).bind fun bt247 => ((impl_asNumber.f bt247.2).bind fun t249 => (some (a1, a2, t249))))) else (none)) else (none)) = some (r1, r2, r3) := by first | (rw [hy242]; with_reducible exact H) | (have H2_ := (Option.bind_some _ _).symm.trans H; rw [hy242]; with_reducible exact H2_) | (have H2_ := (Option.bind_some _ _).symm.trans H; with_reducible exact H2_) | with_reducible exact H | (rw [hy242]; exact H) | exact H
     have Ny242 := Aside0.mk hy242; clear hy242
     by_cases c39 : 0 ≤ a2
     ·rw [if_pos c39] at H
      have c39b0 : decide (0 ≤ a2) = true := decide_eq_true c39; clear c39
      by_cases c40 : a2 < (y242.length : Int)
      ·rw [if_pos c40] at H
       have c40b0 : decide (a2 < (y242.length : Int)) = true := decide_eq_true c40; clear c40; replace H := Option.bind_eq_some_iff.mp H; obtain ⟨t246, A410, H⟩ := H
       replace H : ((impl_rootOf.f k t246).bind fun bt247 => ((impl_asNumber.f bt247.2).bind fun t249 => (some (a1, a2, t249)))) = some (r1, r2, r3) := H
       have A41 := Aside0.mk A410; clear A410; replace H := Option.bind_eq_some_iff.mp H; obtain ⟨⟨t247, t248⟩, A420, H⟩ := H
       replace H : ((impl_asNumber.f t248).bind fun t249 => (some (a1, a2, t249))) = some (r1, r2, r3) := H
       have A42 := Aside0.mk A420; clear A420; replace H := Option.bind_eq_some_iff.mp H; obtain ⟨t249, A430, H⟩ := H
       replace H : (some (a1, a2, t249)) = some (r1, r2, r3) := H
       have A43 := Aside0.mk A430; clear A430; simp only [Option.some.injEq, Prod.mk.injEq] at H; obtain ⟨rfl, rfl, rfl⟩ := H
       go_enter Try.func40, Try.ntmps40
       go_wp2_with (first | ((with_reducible refine gate_dst (N := 3) rfl ?_); refine zE 3 #[.int .i64 a0_0, .int .i64 a0_1, .int .i64 a0_2] 25 ?_; intro gb235 hg w44 hbox hb; have BK235 := Aside0.mk (hbox); have GW235 := zg HB hg; have GE235 := GW235; replace HB := zh HB hb; clear hb hbox hg) | ((with_reducible refine gate_dst (N := 6) rfl ?_); refine zE 6 #[.int .i64 0, .int .i64 0, .int .i64 0] 39 ?_; intro gb236 hg w45 hbox hb; have BK236 := Aside0.mk (hbox); have GW236 := zg HB hg; have GE236 := GW236; have NB235_236 := zl BK235 hg; have NB236_235 := zr BK235 hg; replace BK235 := zb BK235 hb; replace HB := zh HB hb; clear hb hbox hg) | ((with_reducible refine gate_dst (N := 7) rfl ?_); refine zE 7 #[.int .i64 0, .int .i64 0, .int .i64 0] 39 ?_; intro gb237 hg w46 hbox hb; have BK237 := Aside0.mk (hbox); have GW237 := zg HB hg; have GE237 := GW237; have NB235_237 := zl BK235 hg; have NB237_235 := zr BK235 hg; have NB236_237 := zl BK236 hg; have NB237_236 := zr BK236 hg; replace BK235 := zb BK235 hb; replace BK236 := zb BK236 hb; replace HB := zh HB hb; clear hb hbox hg; have hnb47 := NB237_235.out; have hnc47 := NB235_237.out; have hnb48 := NB237_236.out; have hnc48 := NB236_237.out; obtain ⟨_, _, _, _, _, _⟩ := zc3 BK237; have hnb50 := NB235_236.out; have hnc50 := NB236_235.out; obtain ⟨_, _, _, _, _, _⟩ := zc3 BK235) | ((with_reducible refine gate_dst (N := 47) rfl ?_); refine Kd.R_lit (Kd.int .i64) _ 3 ?hg (N := 47) ?hd (xs := ([a0_1, a0_2] : List Int)) (inner := [.int .i64 a0_1, .int .i64 a0_2]) (ok := fun _ => True) (okp := fun _ => True) ?hr ?hp (fun _ hk => hk) trivial (Below.refl _ _) (Nat.le_refl _) zO0_2 ?_; (case hd => rfl); (case hg => rfl); (case hr => first | (go_simp; done) | (go_simp; rfl)); (case hp => exact (Reps.one (show Kd.M (Kd.int .i64) _ _ _ a0_1 [.int .i64 a0_1] from rfl) (Reps.one (show Kd.M (Kd.int .i64) _ _ _ a0_2 [.int .i64 a0_2] from rfl) (Reps.none _ _)))); intro v243 w52 ho53 hb hg_ hnew_; clear hg_ hnew_; (first | rw [← Ny242.out] at ho53 | (simp only [Int.reduceToNat] at ho53; rw [← Ny242.out] at ho53)); have HO244 := Aside0.mk (Kd.R_lower ho53 (below_size (zy HB))); have n3_ := Aside0.mk (blk_below (g := gb237) (o := .cells #[.int .i64 a1, .int .i64 0, .int .i64 0] 39 (0, 0)) (zw BK237) hb); replace BK235 := zb BK235 hb; replace BK236 := zb BK236 hb; replace HB := zh HB hb; clear BK237; have BK237 := n3_; clear n3_; clear hb ho53; obtain ⟨Ao54, co54, eo54⟩ := Kd.R_slice HO244.out; subst eo54; have p245 : 0 ≤ (a2 : Int) := of_decide_eq_true zO0_0; have q245 : a2 < (y242.length : Int) := of_decide_eq_true zO0_0; obtain ⟨ad245, e245, hx245_0⟩ := Kd.at_int (Kd.R_reads' HO244.out).2.2 a2 p245 q245; cases e245; replace p245 := eq_true p245; replace q245 := eq_true q245; obtain ⟨_, _, _, _, _, _⟩ := zc3 BK235) | ((with_reducible refine gate_callee (f := 70) rfl ?_); refine zG (some 55) Try.func70 #[.int .i64 a0_0, .int .i64 (rd y242 a2)] ?_; (with_reducible refine (impl_square.calls a0_0 (rd y242 a2) t246 _ A41.out).mono ?_); rintro e w' ⟨rfl, ⟨nd, rfl⟩⟩; refine ⟨_, rfl, ?_⟩; (try (rw [drewN_self w52]; generalize hq_ : World.drewN w52 _ = w52; have n0_ : Aside0 (Kd.R (Kd.int .i64) 3 w52 w.heap.size (fun _ => True) (.slice (some ad245) y242.length co54) y242) := ⟨by rw [← hq_]; exact (zs HO244)⟩; have n1_ : Aside0 (w52.heap[gb235]? = some (.cells #[.int .i64 a0_0, .int .i64 a0_1, .int .i64 a0_2] 25 (0, 0))) := ⟨by rw [← hq_]; exact (zq BK235)⟩; have n2_ : Aside0 (w52.heap[gb236]? = some (.cells #[.int .i64 0, .int .i64 0, .int .i64 0] 39 (0, 0))) := ⟨by rw [← hq_]; exact (zq BK236)⟩; have n3_ : Aside0 (w52.heap[gb237]? = some (.cells #[.int .i64 a1, .int .i64 0, .int .i64 0] 39 (0, 0))) := ⟨by rw [← hq_]; exact (zq BK237)⟩; have n4_ : Aside0 (Below w.heap.size w w52) := ⟨by rw [← hq_]; exact (zy HB)⟩; clear HO244 BK235 BK236 BK237 HB hq_; have HO244 := n0_; have BK235 := n1_; have BK236 := n2_; have BK237 := n3_; have HB := n4_; clear n0_ n1_ n2_ n3_ n4_))) | ((with_reducible refine gate_callee (f := 50) rfl ?_); refine zG (some 56) Try.func50 #[.int .i64 t246] ?_; (with_reducible refine (impl_rootOf.calls k t246 t247 t248 _ A42.out).mono ?_); rintro e w' ⟨rfl, ⟨nd, rfl⟩⟩; refine ⟨_, rfl, ?_⟩; (try (rw [drewN_self w52]; generalize hq_ : World.drewN w52 _ = w52; have n0_ : Aside0 (Kd.R (Kd.int .i64) 3 w52 w.heap.size (fun _ => True) (.slice (some ad245) y242.length co54) y242) := ⟨by rw [← hq_]; exact (zs HO244)⟩; have n1_ : Aside0 (w52.heap[gb235]? = some (.cells #[.int .i64 a0_0, .int .i64 a0_1, .int .i64 a0_2] 25 (0, 0))) := ⟨by rw [← hq_]; exact (zq BK235)⟩; have n2_ : Aside0 (w52.heap[gb236]? = some (.cells #[.int .i64 0, .int .i64 0, .int .i64 0] 39 (0, 0))) := ⟨by rw [← hq_]; exact (zq BK236)⟩; have n3_ : Aside0 (w52.heap[gb237]? = some (.cells #[.int .i64 a1, .int .i64 0, .int .i64 0] 39 (0, 0))) := ⟨by rw [← hq_]; exact (zq BK237)⟩; have n4_ : Aside0 (Below w.heap.size w w52) := ⟨by rw [← hq_]; exact (zy HB)⟩; clear HO244 BK235 BK236 BK237 HB hq_; have HO244 := n0_; have BK235 := n1_; have BK236 := n2_; have BK237 := n3_; have HB := n4_; clear n0_ n1_ n2_ n3_ n4_))) | ((with_reducible refine gate_callee (f := 69) rfl ?_); refine zG (some 61) Try.func69 #[.bool t248] ?_; (with_reducible refine (impl_asNumber.calls t248 t249 _ A43.out).mono ?_); rintro e w' ⟨rfl, ⟨nd, rfl⟩⟩; refine ⟨_, rfl, ?_⟩; (try (rw [drewN_self w52]; generalize hq_ : World.drewN w52 _ = w52; have n0_ : Aside0 (Kd.R (Kd.int .i64) 3 w52 w.heap.size (fun _ => True) (.slice (some ad245) y242.length co54) y242) := ⟨by rw [← hq_]; exact (zs HO244)⟩; have n1_ : Aside0 (w52.heap[gb235]? = some (.cells #[.int .i64 a0_0, .int .i64 a0_1, .int .i64 a0_2] 25 (0, 0))) := ⟨by rw [← hq_]; exact (zq BK235)⟩; have n2_ : Aside0 (w52.heap[gb236]? = some (.cells #[.int .i64 0, .int .i64 0, .int .i64 0] 39 (0, 0))) := ⟨by rw [← hq_]; exact (zq BK236)⟩; have n3_ : Aside0 (w52.heap[gb237]? = some (.cells #[.int .i64 a1, .int .i64 0, .int .i64 0] 39 (0, 0))) := ⟨by rw [← hq_]; exact (zq BK237)⟩; have n4_ : Aside0 (Below w.heap.size w w52) := ⟨by rw [← hq_]; exact (zy HB)⟩; clear HO244 BK235 BK236 BK237 HB hq_; have HO244 := n0_; have BK235 := n1_; have BK236 := n2_; have BK237 := n3_; have HB := n4_; clear n0_ n1_ n2_ n3_ n4_)); obtain ⟨_, _, _, _, _, _⟩ := zc3 BK237; obtain ⟨_, _, _, _, _, _⟩ := zc3 BK236))
       refine bodyPost_ret (results_cell_row rfl _ _ gb236 39 #[.int .i64 a1, .int .i64 a2, .int .i64 t249] (0, 0) _ rfl (zw BK236) Try.underlying39 rfl (by kernel_rfl)) rfl ?_
       exact ⟨zt, zy HB⟩
      ·rw [if_neg c40] at H
       exact absurd H zO0_2
     ·rw [if_neg c39] at H
      exact absurd H zO0_2
    ·rw [if_neg c38] at H
     have c38b0 : (a1 == 3) = false := beq_eq_false_iff_ne.mpr c38
     have c38b1 : (a1 != 3) = true := bne_iff_ne.mpr c38
     by_cases c58 : a1 = 4
     ·rw [if_pos c58] at H
      have c58b0 : (a1 == 4) = true := beq_iff_eq.mpr c58
      have c58b1 : (a1 != 4) = false := bne_eq_false_iff_eq.mpr c58
      clear c58; replace H := Option.bind_eq_some_iff.mp H; obtain ⟨⟨t250, t251, t252⟩, A590, H⟩ := H
      replace H : (some (a1, t250, t251)) = some (r1, r2, r3) := H
      have A59 := Aside0.mk A590; clear A590; simp only [Option.some.injEq, Prod.mk.injEq] at H; obtain ⟨rfl, rfl, rfl⟩ := H
      go_enter Try.func40, Try.ntmps40
      go_wp2_with (first | ((with_reducible refine gate_dst (N := 3) rfl ?_); refine zE 3 #[.int .i64 a0_0, .int .i64 a0_1, .int .i64 a0_2] 25 ?_; intro gb235 hg w60 hbox hb; have BK235 := Aside0.mk (hbox); have GW235 := zg HB hg; have GE235 := GW235; replace HB := zh HB hb; clear hb hbox hg) | ((with_reducible refine gate_dst (N := 6) rfl ?_); refine zE 6 #[.int .i64 0, .int .i64 0, .int .i64 0] 39 ?_; intro gb236 hg w61 hbox hb; have BK236 := Aside0.mk (hbox); have GW236 := zg HB hg; have GE236 := GW236; have NB235_236 := zl BK235 hg; have NB236_235 := zr BK235 hg; replace BK235 := zb BK235 hb; replace HB := zh HB hb; clear hb hbox hg) | ((with_reducible refine gate_dst (N := 7) rfl ?_); refine zE 7 #[.int .i64 0, .int .i64 0, .int .i64 0] 39 ?_; intro gb237 hg w62 hbox hb; have BK237 := Aside0.mk (hbox); have GW237 := zg HB hg; have GE237 := GW237; have NB235_237 := zl BK235 hg; have NB237_235 := zr BK235 hg; have NB236_237 := zl BK236 hg; have NB237_236 := zr BK236 hg; replace BK235 := zb BK235 hb; replace BK236 := zb BK236 hb; replace HB := zh HB hb; clear hb hbox hg; have hnb63 := NB237_235.out; have hnc63 := NB235_237.out; have hnb64 := NB237_236.out; have hnc64 := NB236_237.out; obtain ⟨_, _, _, _, _, _⟩ := zc3 BK237; have hnb66 := NB235_236.out; have hnc66 := NB236_235.out; obtain ⟨_, _, _, _, _, _⟩ := zc3 BK235) | ((with_reducible refine gate_callee (f := 11) rfl ?_); refine zG (some 68) Try.func11 #[.agg #[.int .i64 a0_0, .int .i64 a0_1, .int .i64 a0_2]] ?_; (with_reducible refine (impl_CrossPlace.calls k a0_0 a0_1 a0_2 t250 t251 t252 _ A59.out).mono ?_); rintro e w68 ⟨rfl, hb⟩; refine ⟨_, rfl, ?_⟩; have n2_ := Aside0.mk (blk_below (g := gb237) (o := .cells #[.int .i64 a1, .int .i64 0, .int .i64 0] 39 (0, 0)) (zw BK237) hb); replace BK235 := zb BK235 hb; replace BK236 := zb BK236 hb; replace HB := zh HB hb; clear BK237; have BK237 := n2_; clear n2_; clear hb; obtain ⟨_, _, _, _, _, _⟩ := zc3 BK237; obtain ⟨_, _, _, _, _, _⟩ := zc3 BK236))
      refine bodyPost_ret (results_cell_row rfl _ _ gb236 39 #[.int .i64 a1, .int .i64 t250, .int .i64 t251] (0, 0) _ rfl (zw BK236) Try.underlying39 rfl (by kernel_rfl)) rfl ?_
      exact ⟨zt, zy HB⟩
     ·rw [if_neg c58] at H
      have c58b0 : (a1 == 4) = false := beq_eq_false_iff_ne.mpr c58
      have c58b1 : (a1 != 4) = true := bne_iff_ne.mpr c58
      by_cases c71 : a1 = 5
      ·rw [if_pos c71] at H
       have c71b0 : (a1 == 5) = true := beq_iff_eq.mpr c71
       have c71b1 : (a1 != 5) = false := bne_eq_false_iff_eq.mpr c71
       clear c71; simp only [Option.some.injEq, Prod.mk.injEq] at H; obtain ⟨rfl, rfl, rfl⟩ := H
       go_enter Try.func40, Try.ntmps40
       go_wp2_with (first | ((with_reducible refine gate_dst (N := 3) rfl ?_); refine zE 3 #[.int .i64 a0_0, .int .i64 a0_1, .int .i64 a0_2] 25 ?_; intro gb235 hg w72 hbox hb; have BK235 := Aside0.mk (hbox); have GW235 := zg HB hg; have GE235 := GW235; replace HB := zh HB hb; clear hb hbox hg) | ((with_reducible refine gate_dst (N := 6) rfl ?_); refine zE 6 #[.int .i64 0, .int .i64 0, .int .i64 0] 39 ?_; intro gb236 hg w73 hbox hb; have BK236 := Aside0.mk (hbox); have GW236 := zg HB hg; have GE236 := GW236; have NB235_236 := zl BK235 hg; have NB236_235 := zr BK235 hg; replace BK235 := zb BK235 hb; replace HB := zh HB hb; clear hb hbox hg) | ((with_reducible refine gate_dst (N := 7) rfl ?_); refine zE 7 #[.int .i64 0, .int .i64 0, .int .i64 0] 39 ?_; intro gb237 hg w74 hbox hb; have BK237 := Aside0.mk (hbox); have GW237 := zg HB hg; have GE237 := GW237; have NB235_237 := zl BK235 hg; have NB237_235 := zr BK235 hg; have NB236_237 := zl BK236 hg; have NB237_236 := zr BK236 hg; replace BK235 := zb BK235 hb; replace BK236 := zb BK236 hb; replace HB := zh HB hb; clear hb hbox hg; have hnb75 := NB237_235.out; have hnc75 := NB235_237.out; have hnb76 := NB237_236.out; have hnc76 := NB236_237.out; obtain ⟨_, _, _, _, _, _⟩ := zc3 BK237; have hnb78 := NB235_236.out; have hnc78 := NB236_235.out; obtain ⟨_, _, _, _, _, _⟩ := zc3 BK235; obtain ⟨_, _, _, _, _, _⟩ := zc3 BK236))
       refine bodyPost_ret (results_cell_row rfl _ _ gb236 39 #[.int .i64 a1, .int .i64 0, .int .i64 (wrap64 (a0_1 * a0_2))] (0, 0) _ rfl (zw BK236) Try.underlying39 rfl (by kernel_rfl)) rfl ?_
       exact ⟨zt, zy HB⟩
      ·rw [if_neg c71] at H
       have c71b0 : (a1 == 5) = false := beq_eq_false_iff_ne.mpr c71
       have c71b1 : (a1 != 5) = true := bne_iff_ne.mpr c71
       simp only [Option.some.injEq, Prod.mk.injEq] at H; obtain ⟨rfl, rfl, rfl⟩ := H
       go_enter Try.func40, Try.ntmps40
       go_wp2_with (first | ((with_reducible refine gate_dst (N := 3) rfl ?_); refine zE 3 #[.int .i64 a0_0, .int .i64 a0_1, .int .i64 a0_2] 25 ?_; intro gb235 hg w81 hbox hb; have BK235 := Aside0.mk (hbox); have GW235 := zg HB hg; have GE235 := GW235; replace HB := zh HB hb; clear hb hbox hg) | ((with_reducible refine gate_dst (N := 6) rfl ?_); refine zE 6 #[.int .i64 0, .int .i64 0, .int .i64 0] 39 ?_; intro gb236 hg w82 hbox hb; have BK236 := Aside0.mk (hbox); have GW236 := zg HB hg; have GE236 := GW236; have NB235_236 := zl BK235 hg; have NB236_235 := zr BK235 hg; replace BK235 := zb BK235 hb; replace HB := zh HB hb; clear hb hbox hg) | ((with_reducible refine gate_dst (N := 7) rfl ?_); refine zE 7 #[.int .i64 0, .int .i64 0, .int .i64 0] 39 ?_; intro gb237 hg w83 hbox hb; have BK237 := Aside0.mk (hbox); have GW237 := zg HB hg; have GE237 := GW237; have NB235_237 := zl BK235 hg; have NB237_235 := zr BK235 hg; have NB236_237 := zl BK236 hg; have NB237_236 := zr BK236 hg; replace BK235 := zb BK235 hb; replace BK236 := zb BK236 hb; replace HB := zh HB hb; clear hb hbox hg; have hnb84 := NB237_235.out; have hnc84 := NB235_237.out; have hnb85 := NB237_236.out; have hnc85 := NB236_237.out; obtain ⟨_, _, _, _, _, _⟩ := zc3 BK237; have hnb87 := NB236_235.out; have hnc87 := NB235_236.out; obtain ⟨_, _, _, _, _, _⟩ := zc3 BK236))
       refine bodyPost_ret (results_cell_row rfl _ _ gb236 39 #[.int .i64 a1, .int .i64 0, .int .i64 0] (0, 0) _ rfl (zw BK236) Try.underlying39 rfl (by kernel_rfl)) rfl ?_
       exact ⟨zt, zy HB⟩


/-! ### mkNext: function 0 -/
def mkNext.f (s : Int) : Option Int := some (Int.tmod (wrap64 (wrap64 (s * 269) + 1361)) 10007)
set_option maxHeartbeats 8000000 in
set_option maxRecDepth 100000 in
theorem mkNext.calls (g : Nat) (s r : Int) (w : World) (hb : w.heap[g]? = some (.cells #[.int .i64 s] 3 (0, 0))) (h : mkNext.f s = some r) :
  Calls Try.prog 39 #[.pointer (some ⟨g, 0, none⟩)] w fun e w' => e = .returned (.int .i64 r) ∧ Drawn0 (w.setCell ⟨g, 0, none⟩ (.int .i64 r)) w' := by
 have hc : w.cell? ⟨g, 0, none⟩ = some (.int .i64 s) := (blk_cell hb 0).trans rfl
 have hf := blk_frozen hb 0
 obtain rfl := Option.some.inj h
 have hc2 : ∀ v, (w.setCell ⟨g, 0, none⟩ v).cell? ⟨g, 0, none⟩ = some v := fun v => World.cell?_setCell_same w ⟨g, 0, none⟩ v hc
 clear h hb
 go_enter Try.func39, Try.ntmps39
 go_wp2
 go_ret
 exact ⟨by first | rfl | (simp; done) | (simp [*]; done), by repeat (first | exact Drawn0.refl _ | apply Drawn0.step)⟩
/-- A call of a function value that lies in a slot, by the function's contract. -/
theorem goesV_ {P : Program} {ops : Array Oper} {Q : Exit → Act → World → Prop} {oi : Oper} {N : Option Tmp} {a : Act} {w : World} {K : Act → World → Prop} {f : FuncId} {fn : Func} {as_ : Array Operand} {ts : Array TypeId} (o : Operand) (lb : Array Value) (hf : P.funcs[f]? = some fn) (hname : (fn.name == "runtime.NumGoroutine") = false) (hb : fn.body.isSome = true) (args : Array Value)
  (hw : Region.wanted oi (yielded ops a.tmps) = true) (hN : oi.dst = N) (hop : oi.op = .call { callee := .value o, args := as_, argTypes := ts }) (hv : a.eval o = .func (.func f) #[] lb) (hargs : as_.map a.eval ++ lb = args)
  (h : Calls P f args w fun e w' => ∃ v, e = .returned v ∧ K (a.put N v) w') : if Region.wanted oi (yielded ops a.tmps) = true then Oper.wp P oi a w K Q else K (a.put N undef) w := by
 refine call_ f args hw hN ?_ h
 have he := enters_ hf hname hb args w
 unfold execOp
 simp [hop, hv, resolve, Deferred.ofValue, invoke, hargs, he]



/-! ### impl_MakePuzzle: function 6 -/
mutual
def impl_MakePuzzle.j0 : Nat → Int → Bool → Int → Int → Int → Int → Option (Int × (List (S39)) × Bool)
 | 0, _, _, _, _, _, _ => none
 | k + 1, x1, x23, x254000, x254001, x254002, x255000 => if x23 = true then (some (0, ([] : List (S39)), false)) else (impl_MakePuzzle.l0 k x1 0 x254000 x254001 x254002 x255000 x254000 ([] : List (S39)))
def impl_MakePuzzle.l0 : Nat → Int → Int → Int → Int → Int → Int → Int → List (S39) → Option (Int × (List (S39)) × Bool)
 | 0, _, _, _, _, _, _, _, _ => none
 | k + 1, x29, x30, x254000, x254001, x254002, x255000, x260000, x260001 => if x30 < x29 then ((mkNext.f x255000).bind fun t260 => ((mkNext.f t260).bind fun t261 => ((impl_told.f k x254000 x254001 x254002 (Int.tmod t260 6) (Int.tmod t261 2)).bind fun bt262 => (if x260001.length < 5864062014805 then (impl_MakePuzzle.l0 k x29 (wrap64 (x30 + 1)) x254000 x254001 x254002 t261 x260000 (x260001 ++ [(⟨bt262.1, bt262.2.1, bt262.2.2⟩ : S39)])) else (none))))) else (some (x260000, x260001, true))
end
def impl_MakePuzzle.f (k : Nat) (a0_0 : Int) (a0_1 : Int) (a0_2 : Int) (a1 : Int) (a2 : Int) : Option (Int × (List (S39)) × Bool) := (impl_areHidden.f a0_0 a0_1 a0_2).bind fun t256 => (if t256 = true then ((impl_within.f a1 0 6).bind fun t257 => (if t257 = true then ((impl_within.f a2 0 9999).bind fun t258 => (impl_MakePuzzle.j0 k a1 (!t258) a0_0 a0_1 a0_2 a2)) else (impl_MakePuzzle.j0 k a1 true a0_0 a0_1 a0_2 a2))) else (impl_MakePuzzle.j0 k a1 true a0_0 a0_1 a0_2 a2))
def impl_MakePuzzle.T8 : Bool × List (List Nat × List Nat) := (true, [([], []), ([0], [0]), ([], []), ([], []), ([], []), ([4], [4]), ([5], [5]), ([2, 3, 6, 5], [2, 3, 6]), ([7], [7]), ([1, 8, 7], [1, 8]), ([0, 1, 2, 3, 4, 5, 6, 7, 8, 9], []), ([10, 9, 9, 0, 1, 2, 3, 4, 5, 6, 7, 8, 9], [9, 10])])
def impl_MakePuzzle.B8 : List Nat := [0, 1, 0, 0, 0, 16, 48, 124, 252, 511, 1023, 2047]
theorem impl_MakePuzzle.tab8 : rtab .any (opsOf Try.f6 8) = impl_MakePuzzle.T8 := by kernel_rfl
theorem impl_MakePuzzle.bits8 : waitsOk impl_MakePuzzle.T8.2 impl_MakePuzzle.B8 = true := by kernel_rfl
set_option maxHeartbeats 8000000 in
set_option maxRecDepth 100000 in
theorem impl_MakePuzzle.calls (k : Nat) (a0_0 : Int) (a0_1 : Int) (a0_2 : Int) (a1 : Int) (a2 : Int) (r1 : Int) (r2 : List (S39)) (r3 : Bool) (w : World) (h : impl_MakePuzzle.f k a0_0 a0_1 a0_2 a1 a2 = some (r1, r2, r3)) :
  Calls Try.prog 6 #[.agg #[.int .i64 a0_0, .int .i64 a0_1, .int .i64 a0_2], .int .i64 a1, .int .i64 a2] w fun e w' => ∃ v1_ : Value, e = .returned (.tuple #[.agg #[.int .i64 r1, v1_], .bool r3]) ∧ Kd.R k39 39 w' w.heap.size (fun _ => True) v1_ r2 ∧ Below w.heap.size w w' := by
 have hu25 := Try.underlying25; have hu30 := Try.underlying30
 have HB := Aside0.mk (Below.refl w.heap.size w)
 have H : ((impl_areHidden.f a0_0 a0_1 a0_2).bind fun t256 => (if t256 = true then ((impl_within.f a1 0 6).bind fun t257 => (if t257 = true then ((impl_within.f a2 0 9999).bind fun t258 => (impl_MakePuzzle.j0 k a1 (!t258) a0_0 a0_1 a0_2 a2)) else (impl_MakePuzzle.j0 k a1 true a0_0 a0_1 a0_2 a2))) else (impl_MakePuzzle.j0 k a1 true a0_0 a0_1 a0_2 a2))) = some (r1, r2, r3) := h
 clear h; have HC4 := Aside0.mk H; clear H
 go_enter Try.func6, Try.ntmps6
 go_upto_region 1 with (first | ((with_reducible refine gate_dst (N := 3) rfl ?_); refine zE 3 #[.int .i64 a0_0, .int .i64 a0_1, .int .i64 a0_2] 25 ?_; intro gb253 hg w5 hbox hb; have BK253 := Aside0.mk (hbox); have GW253 := zg HB hg; have GE253 := GW253; replace HB := zh HB hb; clear hb hbox hg) | ((with_reducible refine gate_dst (N := 5) rfl ?_); refine zE 5 #[.int .i64 a2] 3 ?_; intro gb254 hg w6 hbox hb; have BK254 := Aside0.mk (hbox); have GW254 := zg HB hg; have GE254 := GW254; have NB253_254 := zl BK253 hg; have NB254_253 := zr BK253 hg; replace BK253 := zb BK253 hb; replace HB := zh HB hb; clear hb hbox hg) | ((with_reducible refine gate_dst (N := 6) rfl ?_); refine zE 6 #[.int .i64 0, .slice none 0 0] 30 ?_; intro gb255 hg w7 hbox hb; have BK255 := Aside0.mk (hbox); have GW255 := zg HB hg; have GE255 := GW255; have NB253_255 := zl BK253 hg; have NB255_253 := zr BK253 hg; have NB254_255 := zl BK254 hg; have NB255_254 := zr BK254 hg; replace BK253 := zb BK253 hb; replace BK254 := zb BK254 hb; replace HB := zh HB hb; clear hb hbox hg))
 (try simp only [Act.put, List.setIfInBounds_toArray, List.set_cons_zero, List.set_cons_succ])
 go_cut [23] (fun v23 wc => ∃ (kq : Nat) (x23_3 : Bool), v23 = .bool x23_3 ∧ Aside0 (impl_MakePuzzle.j0 kq a1 x23_3 a0_0 a0_1 a0_2 a2 = some (r1, r2, r3)) ∧ Aside0 (kq ≤ k) ∧ Aside0 (wc.heap[gb253]? = some (.cells #[.int .i64 a0_0, .int .i64 a0_1, .int .i64 a0_2] 25 (0, 0))) ∧ Aside0 (wc.heap[gb254]? = some (.cells #[.int .i64 a2] 3 (0, 0))) ∧ Aside0 (wc.heap[gb255]? = some (.cells #[.int .i64 0, (.slice none 0 0)] 30 (0, 0))) ∧ Aside0 (Below w.heap.size w wc))
 case first =>
  have H := HC4.out; clear HC4; replace H := Option.bind_eq_some_iff.mp H; obtain ⟨t256, A80, H⟩ := H; (try dsimp only at H); have A8 := Aside0.mk A80; clear A80
  by_cases c9 : t256 = true
  ·subst c9
   rw [if_pos rfl] at H; replace H := Option.bind_eq_some_iff.mp H; obtain ⟨t257, A100, H⟩ := H; (try dsimp only at H); have A10 := Aside0.mk A100; clear A100
   by_cases c11 : t257 = true
   ·subst c11
    rw [if_pos rfl] at H; replace H := Option.bind_eq_some_iff.mp H; obtain ⟨t258, A120, H⟩ := H
    replace H : (impl_MakePuzzle.j0 k a1 (!t258) a0_0 a0_1 a0_2 a2) = some (r1, r2, r3) := H
    have A12 := Aside0.mk A120; clear A120; have H' := Aside0.mk H; clear H; have hnb13 := NB253_254.out; have hnc13 := NB254_253.out; have hnb14 := NB253_255.out; have hnc14 := NB255_253.out
    obtain ⟨_, _, _, _, _, _⟩ := zc3 BK253
    go_wp2_with (first | ((with_reducible refine gate_callee (f := 37) rfl ?_); refine zG (some 12) Try.func37 #[.agg #[.int .i64 a0_0, .int .i64 a0_1, .int .i64 a0_2]] ?_; (with_reducible refine (impl_areHidden.calls a0_0 a0_1 a0_2 true _ A8.out).mono ?_); rintro e w16 ⟨rfl, hb⟩; refine ⟨_, rfl, ?_⟩; replace BK253 := zb BK253 hb; replace BK254 := zb BK254 hb; replace BK255 := zb BK255 hb; replace HB := zh HB hb; clear hb) | (go_at_call 38; (with_reducible refine (impl_within.calls a1 0 6 true _ A10.out).mono ?_); rintro e w' ⟨rfl, ⟨nd, rfl⟩⟩; have hnb17 := NB254_255.out; have hnc17 := NB255_254.out; obtain ⟨_, _⟩ := zc1 BK254) | (go_at_call 38; (with_reducible refine (impl_within.calls a2 0 9999 t258 _ A12.out).mono ?_); rintro e w' ⟨rfl, ⟨nd, rfl⟩⟩))
    go_meet
    case rel => exact ⟨_, (!t258), zu, H', ⟨by first | omega | exact Nat.le_refl _⟩, zk BK253, zk BK254, zk BK255, ⟨zy HB⟩⟩
   ·replace c11 := Bool.eq_false_iff.mpr c11
    subst c11; rw [if_neg (show ¬ (false = true) by decide)] at H; have H' := Aside0.mk H; clear H; have hnb19 := NB253_254.out; have hnc19 := NB254_253.out; have hnb20 := NB253_255.out; have hnc20 := NB255_253.out
    obtain ⟨_, _, _, _, _, _⟩ := zc3 BK253
    go_wp2_with (first | ((with_reducible refine gate_callee (f := 37) rfl ?_); refine zG (some 12) Try.func37 #[.agg #[.int .i64 a0_0, .int .i64 a0_1, .int .i64 a0_2]] ?_; (with_reducible refine (impl_areHidden.calls a0_0 a0_1 a0_2 true _ A8.out).mono ?_); rintro e w22 ⟨rfl, hb⟩; refine ⟨_, rfl, ?_⟩; replace BK253 := zb BK253 hb; replace BK254 := zb BK254 hb; replace BK255 := zb BK255 hb; replace HB := zh HB hb; clear hb) | (go_at_call 38; (with_reducible refine (impl_within.calls a1 0 6 false _ A10.out).mono ?_); rintro e w' ⟨rfl, ⟨nd, rfl⟩⟩))
    go_meet
    case rel => exact ⟨_, (true), zu, H', ⟨by first | omega | exact Nat.le_refl _⟩, zk BK253, zk BK254, zk BK255, ⟨zy HB⟩⟩
  ·replace c9 := Bool.eq_false_iff.mpr c9
   subst c9; rw [if_neg (show ¬ (false = true) by decide)] at H; have H' := Aside0.mk H; clear H; have hnb23 := NB253_254.out; have hnc23 := NB254_253.out; have hnb24 := NB253_255.out; have hnc24 := NB255_253.out
   obtain ⟨_, _, _, _, _, _⟩ := zc3 BK253
   go_wp2_with (first | ((with_reducible refine gate_callee (f := 37) rfl ?_); refine zG (some 12) Try.func37 #[.agg #[.int .i64 a0_0, .int .i64 a0_1, .int .i64 a0_2]] ?_; (with_reducible refine (impl_areHidden.calls a0_0 a0_1 a0_2 false _ A8.out).mono ?_); rintro e w26 ⟨rfl, hb⟩; refine ⟨_, rfl, ?_⟩; replace BK253 := zb BK253 hb; replace BK254 := zb BK254 hb; replace BK255 := zb BK255 hb; replace HB := zh HB hb; clear hb))
   go_meet
   case rel => exact ⟨_, (true), zu, H', ⟨by first | omega | exact Nat.le_refl _⟩, zk BK253, zk BK254, zk BK255, ⟨zy HB⟩⟩
 case rest =>
  clear HC4
  obtain ⟨kq, x23_3, rfl, HA, HJ3, BK253, BK254, BK255, HB⟩ := hcut
  cases kq with
  | zero => exact absurd HA.out (by simp [impl_MakePuzzle.j0])
  | succ kj3 =>
   have H := HA.out; clear HA; simp only [impl_MakePuzzle.j0] at H
   by_cases c27 : x23_3 = true
   ·subst c27
    rw [if_pos rfl] at H; simp only [Option.some.injEq, Prod.mk.injEq] at H; obtain ⟨rfl, rfl, rfl⟩ := H; have hnb28 := NB255_253.out; have hnc28 := NB253_255.out; have hnb29 := NB255_254.out; have hnc29 := NB254_255.out
    obtain ⟨_, _, _, _⟩ := zc2 BK255
    go_wp2
    refine bodyPost_ret (results_ct rfl _ _ gb255 30 #[.int .i64 0, .slice none 0 0] (0, 0) _ rfl (zw BK255) Try.underlying30 rfl (by kernel_rfl)) rfl ?_
    exact ⟨_, zt, by first | exact Kd.R_nil _ _ _ _ _ | exact Kd.N_nil _ _ _ _ _ | exact Kd.V_nil _ _ _ _ _ | exact Kd.Q_nil _ _ _ _ _ | exact Kd.S_nil _ _ _ _ _, zy HB⟩
   ·replace c27 := Bool.eq_false_iff.mpr c27
    subst c27; rw [if_neg (show ¬ (false = true) by decide)] at H; have H' := Aside0.mk H; clear H; have hnb31 := NB253_254.out; have hnc31 := NB254_253.out; have hnb32 := NB253_255.out; have hnc32 := NB255_253.out
    obtain ⟨_, _, _, _, _, _⟩ := zc3 BK253
    go_wp2_with (first | ((with_reducible refine gate_dst (N := 9) rfl ?_); refine zE 9 #[.int .i64 0, .slice none 0 0] 30 ?_; intro gb259 hg w34 hbox hb; have BK259 := Aside0.mk (hbox); have GW259 := zg HB hg; have GE259 := GW259; have NB253_259 := zl BK253 hg; have NB259_253 := zr BK253 hg; have NB254_259 := zl BK254 hg; have NB259_254 := zr BK254 hg; have NB255_259 := zl BK255 hg; have NB259_255 := zr BK255 hg; replace BK253 := zb BK253 hb; replace BK254 := zb BK254 hb; replace BK255 := zb BK255 hb; replace HB := zh HB hb; clear hb hbox hg; have hnb35 := NB259_253.out; have hnc35 := NB253_259.out; have hnb36 := NB259_254.out; have hnc36 := NB254_259.out; have hnb37 := NB259_255.out; have hnc37 := NB255_259.out; obtain ⟨_, _, _, _⟩ := zc2 BK259))
    go_loopg [30] kj3 (fun kq v30 w' => ∃ (x30_2 : Int) (x255000_2 : Int) (x260001_2 : List (S39)) (u260001 : Value), v30 = .int .i64 x30_2 ∧ Aside0 (impl_MakePuzzle.l0 kq a1 x30_2 a0_0 a0_1 a0_2 x255000_2 a0_0 x260001_2 = some (r1, r2, r3)) ∧ Aside0 (kq ≤ kj3) ∧ Aside0 (Kd.R k39 39 w' w.heap.size (fun _ => True) u260001 x260001_2) ∧ Aside0 (w'.heap[gb253]? = some (.cells #[.int .i64 a0_0, .int .i64 a0_1, .int .i64 a0_2] 25 (0, 0))) ∧ Aside0 (w'.heap[gb254]? = some (.cells #[.int .i64 x255000_2] 3 (0, 0))) ∧ Aside0 (w'.heap[gb255]? = some (.cells #[.int .i64 0, (.slice none 0 0)] 30 (0, 0))) ∧ Aside0 (w'.heap[gb259]? = some (.cells #[.int .i64 a0_0, u260001] 30 (0, 0))) ∧ Aside0 (Below w.heap.size w w'))
    case atStart => exact ⟨(0), (a2), (([] : List (S39))), (.slice none 0 0), zu, H', ⟨Nat.le_refl _⟩, ⟨by first | exact Kd.R_nil _ _ _ _ _ | exact Kd.N_nil _ _ _ _ _ | exact Kd.V_nil _ _ _ _ _ | exact Kd.Q_nil _ _ _ _ _ | exact Kd.S_nil _ _ _ _ _⟩, zk BK253, zk BK254, zk BK255, ⟨zw BK259⟩, ⟨zy HB⟩⟩
    case round =>
     clear H'
     obtain ⟨x30_2, x255000_2, x260001_2, u260001, rfl, HA, HK2, HO_260001, BK253, BK254, BK255, BK259, HB⟩ := hrel
     cases gk with
     | zero => exact absurd HA.out (by simp [impl_MakePuzzle.l0])
     | succ k2 =>
      have H := HA.out; clear HA; simp only [impl_MakePuzzle.l0] at H
      by_cases c39 : x30_2 < a1
      ·rw [if_pos c39] at H
       have c39b0 : decide (x30_2 < a1) = true := decide_eq_true c39; clear c39; replace H := Option.bind_eq_some_iff.mp H; obtain ⟨t260, A400, H⟩ := H; (try dsimp only at H); have A40 := Aside0.mk A400; clear A400; replace H := Option.bind_eq_some_iff.mp H; obtain ⟨t261, A410, H⟩ := H; (try dsimp only at H); have A41 := Aside0.mk A410; clear A410; replace H := Option.bind_eq_some_iff.mp H; obtain ⟨⟨t262, t263, t264⟩, A420, H⟩ := H; (try dsimp only at H); have A42 := Aside0.mk A420; clear A420
       by_cases c43 : x260001_2.length < 5864062014805
       ·rw [if_pos c43] at H
        have LMc43 := Aside0.mk c43; clear c43
        obtain ⟨y265, hy265⟩ : ∃ y_ : List (S39), y_ = (x260001_2 ++ [(⟨t262, t263, t264⟩ : S39)]) := ⟨_, rfl⟩
        replace H : (impl_MakePuzzle.l0 k2 a1 (wrap64 (x30_2 + 1)) a0_0 a0_1 a0_2 t261 a0_0 y265) = some (r1, r2, r3) := by first | (rw [hy265]; with_reducible exact H) | (have H2_ := (Option.bind_some _ _).symm.trans H; rw [hy265]; with_reducible exact H2_) | (have H2_ := (Option.bind_some _ _).symm.trans H; with_reducible exact H2_) | with_reducible exact H | (rw [hy265]; exact H) | exact H
        have Ny265 := Aside0.mk hy265; clear hy265; have H' := Aside0.mk H; clear H; have hnb44 := NB254_253.out; have hnc44 := NB253_254.out; have hnb45 := NB254_255.out; have hnc45 := NB255_254.out; have hnb46 := NB254_259.out; have hnc46 := NB259_254.out
        obtain ⟨_, _⟩ := zc1 BK254
        have eg75 := enters_of Try.func39 (by kernel_rfl) rfl
        go_wp2_with (go_at_call 39; refine (mkNext.calls gb254 x255000_2 t260 _ BK254.out A40.out).mono ?_; rintro e w48 ⟨rfl, ⟨nd, hw_⟩⟩; have n0_ : Aside0 (Kd.R k39 39 w48 w.heap.size (fun _ => True) u260001 x260001_2) := ⟨by rw [hw_]; (with_reducible repeat (first | apply Kd.R_alloc | apply Kd.R_drewN | apply Kd.R_drew)); exact Kd.R_mono (Kd.R_far (p := ⟨gb254, 0, none⟩) (Kd.R_types HO_260001.out BK254.out (by decide)) (fun _ hk => hk.2) (.int .i64 t260)) (fun _ hk => trivial)⟩; have n1_ : Aside0 (w48.heap[gb253]? = some (.cells #[.int .i64 a0_0, .int .i64 a0_1, .int .i64 a0_2] 25 (0, 0))) := ⟨by rw [hw_]; (with_reducible repeat (first | refine blk_drewN ?_ _ | refine blk_drew ?_ | refine blk_alloc ?_ _)); refine blk_far ?_ NB253_254.out _; (with_reducible repeat (first | refine blk_drewN ?_ _ | refine blk_drew ?_ | refine blk_alloc ?_ _)); exact BK253.out⟩; have n2_ : Aside0 (w48.heap[gb254]? = some (.cells #[.int .i64 t260] 3 (0, 0))) := ⟨by rw [hw_]; (with_reducible repeat (first | refine blk_drewN ?_ _ | refine blk_drew ?_ | refine blk_alloc ?_ _)); refine blk_put (cs := #[.int .i64 x255000_2]) ?_ 0 _ rfl; (with_reducible repeat (first | refine blk_drewN ?_ _ | refine blk_drew ?_ | refine blk_alloc ?_ _)); exact BK254.out⟩; have n3_ : Aside0 (w48.heap[gb255]? = some (.cells #[.int .i64 0, .slice none 0 0] 30 (0, 0))) := ⟨by rw [hw_]; (with_reducible repeat (first | refine blk_drewN ?_ _ | refine blk_drew ?_ | refine blk_alloc ?_ _)); refine blk_far ?_ NB255_254.out _; (with_reducible repeat (first | refine blk_drewN ?_ _ | refine blk_drew ?_ | refine blk_alloc ?_ _)); exact BK255.out⟩; have n4_ : Aside0 (w48.heap[gb259]? = some (.cells #[.int .i64 a0_0, u260001] 30 (0, 0))) := ⟨by rw [hw_]; (with_reducible repeat (first | refine blk_drewN ?_ _ | refine blk_drew ?_ | refine blk_alloc ?_ _)); refine blk_far ?_ NB259_254.out _; (with_reducible repeat (first | refine blk_drewN ?_ _ | refine blk_drew ?_ | refine blk_alloc ?_ _)); exact BK259.out⟩; have n5_ : Aside0 (Below w.heap.size w w48) := ⟨by rw [hw_]; repeat (first | (with_reducible first | exact HB.out | apply below_alloc | apply pw_below_drewN | apply below_drew1 | refine below_set ?_ GE253.out | refine below_set ?_ GE254.out | refine below_set ?_ GE255.out | refine below_set ?_ GE259.out) | exact HB.out)⟩; clear HO_260001 BK253 BK254 BK255 BK259 HB hw_; have HO_260001 := n0_; have BK253 := n1_; have BK254 := n2_; have BK255 := n3_; have BK259 := n4_; have HB := n5_; clear n0_ n1_ n2_ n3_ n4_ n5_)
        replace HO_260001 := Aside0.mk (Kd.R_drew HO_260001.out); replace BK253 := Aside0.mk (blk_drew BK253.out); replace BK254 := Aside0.mk (blk_drew BK254.out); replace BK255 := Aside0.mk (blk_drew BK255.out); replace BK259 := Aside0.mk (blk_drew BK259.out); replace HB := Aside0.mk (below_drew1 HB.out)
        refine start_ (n := 12) (S := fun w' => w'.cell? ⟨gb259, 0, none⟩ = some (.int .i64 a0_0) ∧ w'.cell? ⟨gb259, 1, none⟩ = some (u260001) ∧ w'.cell? ⟨gb253, 0, none⟩ = some (.int .i64 a0_0) ∧ w'.cell? ⟨gb253, 1, none⟩ = some (.int .i64 a0_1) ∧ w'.cell? ⟨gb253, 2, none⟩ = some (.int .i64 a0_2)) (ds := [11]) #[false, false, false, false, false, false, false, false, false, false, false, false] (by kernel_rfl) rfl rfl ⟨(blk_cell BK259.out 0).trans rfl, (blk_cell BK259.out 1).trans rfl, (blk_cell BK253.out 0).trans rfl, (blk_cell BK253.out 1).trans rfl, (blk_cell BK253.out 2).trans rfl⟩ (fun hHeld => ?_); refine with_tabW impl_MakePuzzle.tab8 impl_MakePuzzle.bits8 (fun HT_ HW_ => ?_)
        generalize w48.drew = w49 at HO_260001 BK253 BK254 BK255 BK259 HB hHeld ⊢
        refine zA 0 35 HT_ ?_
        refine zA 3 38 HT_ ?_
        refine zA 4 39 HT_ ?_
        refine zT 1 36 HT_ HW_ hHeld ?_
        refine zT 2 37 HT_ HW_ hHeld ?_
        refine zO 5 (some 40) HT_ (fun K hK => ?_)
        refine goesV_ (.tmp 39) #[.pointer (some ⟨gb254, 0, none⟩)] Try.func39 (by kernel_rfl) rfl #[.pointer (some ⟨gb254, 0, none⟩)] (by rfl) rfl rfl (by rfl) zO0_2 ?_
        refine (mkNext.calls gb254 t260 t261 _ BK254.out A41.out).mono ?_
        rintro e wz_ ⟨rfl, ⟨nd, hw_⟩⟩
        refine ⟨_, rfl, ?_⟩
        have n0_ : Aside0 (Kd.R k39 39 wz_ w.heap.size (fun _ => True) u260001 x260001_2) := ⟨by rw [hw_]; (with_reducible repeat (first | apply Kd.R_alloc | apply Kd.R_drewN | apply Kd.R_drew)); exact Kd.R_mono (Kd.R_far (p := ⟨gb254, 0, none⟩) (Kd.R_types HO_260001.out BK254.out (by decide)) (fun _ hk => hk.2) (.int .i64 t261)) (fun _ hk => trivial)⟩
        have n1_ : Aside0 (wz_.heap[gb253]? = some (.cells #[.int .i64 a0_0, .int .i64 a0_1, .int .i64 a0_2] 25 (0, 0))) := ⟨by rw [hw_]; (with_reducible repeat (first | refine blk_drewN ?_ _ | refine blk_drew ?_ | refine blk_alloc ?_ _)); refine blk_far ?_ NB253_254.out _; (with_reducible repeat (first | refine blk_drewN ?_ _ | refine blk_drew ?_ | refine blk_alloc ?_ _)); exact BK253.out⟩
        have n2_ : Aside0 (wz_.heap[gb254]? = some (.cells #[.int .i64 t261] 3 (0, 0))) := ⟨by rw [hw_]; (with_reducible repeat (first | refine blk_drewN ?_ _ | refine blk_drew ?_ | refine blk_alloc ?_ _)); refine blk_put (cs := #[.int .i64 t260]) ?_ 0 _ rfl; (with_reducible repeat (first | refine blk_drewN ?_ _ | refine blk_drew ?_ | refine blk_alloc ?_ _)); exact BK254.out⟩
        have n3_ : Aside0 (wz_.heap[gb255]? = some (.cells #[.int .i64 0, .slice none 0 0] 30 (0, 0))) := ⟨by rw [hw_]; (with_reducible repeat (first | refine blk_drewN ?_ _ | refine blk_drew ?_ | refine blk_alloc ?_ _)); refine blk_far ?_ NB255_254.out _; (with_reducible repeat (first | refine blk_drewN ?_ _ | refine blk_drew ?_ | refine blk_alloc ?_ _)); exact BK255.out⟩
        have n4_ : Aside0 (wz_.heap[gb259]? = some (.cells #[.int .i64 a0_0, u260001] 30 (0, 0))) := ⟨by rw [hw_]; (with_reducible repeat (first | refine blk_drewN ?_ _ | refine blk_drew ?_ | refine blk_alloc ?_ _)); refine blk_far ?_ NB259_254.out _; (with_reducible repeat (first | refine blk_drewN ?_ _ | refine blk_drew ?_ | refine blk_alloc ?_ _)); exact BK259.out⟩
        have n5_ : Aside0 (Below w.heap.size w wz_) := ⟨by rw [hw_]; repeat (first | (with_reducible first | exact HB.out | apply below_alloc | apply pw_below_drewN | apply below_drew1 | refine below_set ?_ GE253.out | refine below_set ?_ GE254.out | refine below_set ?_ GE255.out | refine below_set ?_ GE259.out) | exact HB.out)⟩
        clear HO_260001 BK253 BK254 BK255 BK259 HB hw_; have HO_260001 := n0_; have BK253 := n1_; have BK254 := n2_; have BK255 := n3_; have BK259 := n4_; have HB := n5_; clear n0_ n1_ n2_ n3_ n4_ n5_
        refine hK.out _ _ ⟨(blk_cell BK259.out 0).trans rfl, (blk_cell BK259.out 1).trans rfl, (blk_cell BK253.out 0).trans rfl, (blk_cell BK253.out 1).trans rfl, (blk_cell BK253.out 2).trans rfl⟩ (fun hHeld => ?_)
        clear hK K
        refine zN 40 ?_
        refine zA 6 41 HT_ ?_
        refine zO 7 (some 42) HT_ (fun K hK => ?_)
        refine goes_ Try.func40 (by kernel_rfl) rfl #[.agg #[.int .i64 a0_0, .int .i64 a0_1, .int .i64 a0_2], .int .i64 (Int.tmod t260 6), .int .i64 (Int.tmod t261 2)] (by rfl) rfl rfl (by (try simp only [List.map_toArray, List.map_cons, List.map_nil]); first | done | rfl | (simp only [List.length_drop, List.length_take]; rfl)) ?_
        with_reducible refine (impl_told.calls k2 a0_0 a0_1 a0_2 (Int.tmod t260 6) (Int.tmod t261 2) t262 t263 t264 _ A42.out).mono ?_
        rintro e w50 ⟨rfl, hb⟩
        refine ⟨_, rfl, ?_⟩
        replace HO_260001 := zo HO_260001 hb; replace BK253 := zb BK253 hb; replace BK254 := zb BK254 hb; replace BK255 := zb BK255 hb; replace BK259 := zb BK259 hb; replace HB := zh HB hb
        (try clear hb)
        (try clear hb2)
        (try clear hk)
        (try clear hi)
        refine hK.out _ _ ⟨(blk_cell BK259.out 0).trans rfl, (blk_cell BK259.out 1).trans rfl, (blk_cell BK253.out 0).trans rfl, (blk_cell BK253.out 1).trans rfl, (blk_cell BK253.out 2).trans rfl⟩ (fun hHeld => ?_)
        clear hK K
        refine zN 42 ?_
        refine zO 8 (some 43) HT_ (fun K hK => ?_)
        refine value_ (w1 := ?_) (v := ?_) (by rfl) rfl ?_ ?_
        rotate_left 2
        ·go_simp
         constructor
         ·rfl
         ·rfl
        refine hK.out _ _ ⟨(blk_cell (blk_alloc BK259.out _) 0).trans rfl, (blk_cell (blk_alloc BK259.out _) 1).trans rfl, (blk_cell (blk_alloc BK253.out _) 0).trans rfl, (blk_cell (blk_alloc BK253.out _) 1).trans rfl, (blk_cell (blk_alloc BK253.out _) 2).trans rfl⟩ (fun hHeld => ?_)
        clear hK K
        refine zN 43 ?_
        refine zO 9 (some 44) HT_ (fun K hK => ?_)
        refine Kd.R_append_step k39 (w0 := w) w.heap.size (by rfl) (.tmp 36) (.tmp 43) 28 39 (.agg #[(.int .i64 0), (.int .i64 0), (.int .i64 0)]) 24 rfl Try.underlying28 info39 rfl (by decide) (by omega) u260001 x260001_2 (⟨t262, t263, t264⟩ : S39) [.int .i64 t262, .int .i64 t263, .int .i64 t264] (fun _ => True) (fun _ => False) rfl rfl ?aP (fun _ hk => hk.elim) ?aF ?aO ?aB ?aS ?aL ?_
        (case aP => exact k39_mkM _ _ _ (⟨t262, t263, t264⟩ : S39))
        (case aB => exact (zy HB))
        (case aF => exact (fun _ _ => trivial))
        (case aO => exact (zs HO_260001))
        (case aS => exact (below_size (zy HB)))
        (case aL => have := LMc43.out; omega)
        intro v266 w51 ho hb hg hat
        rw [← Ny265.out] at ho
        have n0_ := Aside0.mk (blk_grown (zq BK253) hg (Kd.R_ne HO_260001.out BK253.out (by decide)))
        have n1_ := Aside0.mk (blk_grown (zq BK254) hg (Kd.R_ne HO_260001.out BK254.out (by decide)))
        have n2_ := Aside0.mk (blk_grown (zq BK255) hg (Kd.R_ne HO_260001.out BK255.out (by decide)))
        have n3_ := Aside0.mk (blk_grown (zq BK259) hg (Kd.R_ne HO_260001.out BK259.out (by decide)))
        have HO267 := Aside0.mk (ho)
        replace HB := Aside0.mk hb
        clear HO_260001; clear BK253; have BK253 := n0_; clear n0_; clear BK254; have BK254 := n1_; clear n1_; clear BK255; have BK255 := n2_; clear n2_; clear BK259; have BK259 := n3_; clear n3_; clear ho hb hg hat
        obtain ⟨Ao52, co52, eo52⟩ := Kd.R_slice HO267.out
        (first | subst eo52 | (injection eo52 with f1_ f2_ f3_; have f4_ := f1_.symm; have f5_ := f3_.symm; clear f1_ f2_ f3_; subst f4_; subst f5_))
        refine hK.out _ _ ⟨(blk_cell BK259.out 0).trans rfl, (blk_cell BK259.out 1).trans rfl, (blk_cell BK253.out 0).trans rfl, (blk_cell BK253.out 1).trans rfl, (blk_cell BK253.out 2).trans rfl⟩ (fun hHeld => ?_)
        clear hK K
        refine zN 44 ?_
        refine zA 10 45 HT_ ?_
        refine last_ (i := 11) (N := none) #[true, true, true, true, true, true, true, true, true, true, true, true] rfl rfl (one_of HT_.out (by kernel_rfl)) (by decide) (fun K hK => ?_)
        have hs53 : w51.cell? ⟨gb259, 1, none⟩ = some (u260001) := (blk_cell BK259.out 1).trans rfl
        have hfs53 := blk_frozen BK259.out 1
        have hns53_0 := NB253_259.out; have hns53_1 := NB254_259.out; have hns53_2 := NB255_259.out; have hms53_0 := NB259_253.out; have hms53_1 := NB259_254.out; have hms53_2 := NB259_255.out
        refine skip_ (w1 := ?_) (by rfl) rfl ?_ ?_
        rotate_left
        ·go_simp
         rfl
        refine hK.out _ _ ?_
        clear hK K
        refine done_ (done_of HT_.out (by kernel_rfl)) ?_
        obtain ⟨_, _⟩ := zc1 BK254
        try go_wp2
        go_roundg k2
        case measure => have := HJ3.out; have := HK2.out; omega
        case rel => exact ⟨(wrap64 (x30_2 + 1)), (t261), (y265), (.slice Ao52 y265.length co52), zu, H', ⟨by have := HJ3.out; have := HK2.out; omega⟩, ⟨by (with_reducible repeat (first | apply Kd.R_alloc | apply Kd.R_drewN | apply Kd.R_drew)); exact Kd.R_mono (Kd.R_far (p := ⟨gb259, 1, none⟩) (Kd.R_types HO267.out BK259.out (by decide)) (fun _ hk => hk.2) (.slice Ao52 y265.length co52)) (fun _ hk => trivial)⟩, zk BK253, zk BK254, zk BK255, ⟨zw BK259⟩, ⟨zy HB⟩⟩
       ·rw [if_neg c43] at H
        exact absurd H zO0_2
      ·rw [if_neg c39] at H
       have c39b0 : decide (x30_2 < a1) = false := decide_eq_false c39; clear c39; simp only [Option.some.injEq, Prod.mk.injEq] at H; obtain ⟨rfl, rfl, rfl⟩ := H; have hnb55 := NB259_253.out; have hnc55 := NB253_259.out; have hnb56 := NB259_254.out; have hnc56 := NB254_259.out; have hnb57 := NB259_255.out; have hnc57 := NB255_259.out
       obtain ⟨_, _, _, _⟩ := zc2 BK259
       have hnb59 := NB255_253.out; have hnc59 := NB253_255.out; have hnb60 := NB255_254.out; have hnc60 := NB254_255.out
       obtain ⟨_, _, _, _⟩ := zc2 BK255
       obtain ⟨Ao62, co62, eo62⟩ := Kd.R_slice HO_260001.out
       subst eo62
       go_wp2
       refine bodyPost_ret (results_ct rfl _ _ gb255 30 #[.int .i64 a0_0, .slice Ao62 x260001_2.length co62] (0, 0) _ rfl (zw BK255) Try.underlying30 rfl (by kernel_rfl)) rfl ?_
       exact ⟨_, zt, by (with_reducible repeat (first | apply Kd.R_alloc | apply Kd.R_drewN | apply Kd.R_drew)); exact Kd.R_mono (Kd.R_far (p := ⟨gb255, 1, none⟩) (Kd.R_far (p := ⟨gb255, 0, none⟩) (Kd.R_types HO_260001.out BK255.out (by decide)) (fun _ hk => hk.2) (.int .i64 a0_0)) (fun _ hk => hk.2) (.slice Ao62 x260001_2.length co62)) (fun _ hk => trivial), zy HB⟩


/-! ### spec_l1In: function 42 -/
def spec_l1In.f (a0 : Int) (a1 : Int) (a2 : Int) : Option (Bool) := if a0 ≥ a1 then (some (decide (a0 ≤ a2))) else (some false)
set_option maxHeartbeats 8000000 in
set_option maxRecDepth 100000 in
theorem spec_l1In.calls (a0 : Int) (a1 : Int) (a2 : Int) (r : Bool) (w : World) (h : spec_l1In.f a0 a1 a2 = some r) :
  Calls Try.prog 42 #[.int .i64 a0, .int .i64 a1, .int .i64 a2] w fun e w' => e = .returned (.bool r) ∧ Drawn0 w w' := by
 have H : (if a0 ≥ a1 then (some (decide (a0 ≤ a2))) else (some false)) = some r := h
 clear h
 by_cases c4 : a0 ≥ a1
 ·rw [if_pos c4] at H
  have c4b0 : decide (a1 ≤ a0) = true := decide_eq_true c4; clear c4
  obtain rfl := Option.some.inj H
  go_enter Try.func42, Try.ntmps42
  go_wp2
  go_ret
  exact ⟨by first | rfl | (simp; done) | (simp [*]; done), by repeat (first | exact Drawn0.refl _ | apply Drawn0.step)⟩
 ·rw [if_neg c4] at H
  have c4b0 : decide (a1 ≤ a0) = false := decide_eq_false c4; clear c4
  obtain rfl := Option.some.inj H
  go_enter Try.func42, Try.ntmps42
  go_wp2
  go_ret
  exact ⟨by first | rfl | (simp; done) | (simp [*]; done), by repeat (first | exact Drawn0.refl _ | apply Drawn0.step)⟩


/-! ### spec_pzWide: function 66 -/
def spec_pzWide.f (a0 : Int) : Option (Bool) := (spec_l1In.f a0 1 12).bind fun t268 => (some t268)
set_option maxHeartbeats 8000000 in
set_option maxRecDepth 100000 in
theorem spec_pzWide.calls (a0 : Int) (r : Bool) (w : World) (h : spec_pzWide.f a0 = some r) :
  Calls Try.prog 66 #[.int .i64 a0] w fun e w' => e = .returned (.bool r) ∧ Drawn0 w w' := by
 have H : ((spec_l1In.f a0 1 12).bind fun t268 => (some t268)) = some r := h
 clear h; replace H := Option.bind_eq_some_iff.mp H; obtain ⟨t268, A20, H⟩ := H
 replace H : (some t268) = some r := H
 have A2 := Aside0.mk A20; clear A20
 obtain rfl := Option.some.inj H
 go_enter Try.func66, Try.ntmps66
 go_wp2_with (first | ((with_reducible refine gate_callee (f := 42) rfl ?_); refine zG (some 4) Try.func42 #[.int .i64 a0, .int .i64 1, .int .i64 12] ?_; (with_reducible refine (spec_l1In.calls a0 1 12 t268 _ A2.out).mono ?_); rintro e w' ⟨rfl, ⟨nd, rfl⟩⟩; refine ⟨_, rfl, ?_⟩))
 go_ret
 exact ⟨by first | rfl | (simp; done) | (simp [*]; done), by repeat (first | exact Drawn0.refl _ | apply Drawn0.step)⟩


/-! ### spec_pzHidden: function 41 -/
def spec_pzHidden.f (a0_0 : Int) (a0_1 : Int) (a0_2 : Int) : Option (Bool) := (spec_pzWide.f a0_0).bind fun t270 => (if t270 = true then ((spec_pzWide.f a0_1).bind fun t271 => (if t271 = true then ((spec_pzWide.f a0_2).bind fun t272 => (some t272)) else (some false))) else (some false))
set_option maxHeartbeats 8000000 in
set_option maxRecDepth 100000 in
theorem spec_pzHidden.calls (a0_0 : Int) (a0_1 : Int) (a0_2 : Int) (r : Bool) (w : World) (h : spec_pzHidden.f a0_0 a0_1 a0_2 = some r) :
  Calls Try.prog 41 #[.agg #[.int .i64 a0_0, .int .i64 a0_1, .int .i64 a0_2]] w fun e w' => e = .returned (.bool r) ∧ Below w.heap.size w w' := by
 have hu25 := Try.underlying25
 have HB := Aside0.mk (Below.refl w.heap.size w)
 have H : ((spec_pzWide.f a0_0).bind fun t270 => (if t270 = true then ((spec_pzWide.f a0_1).bind fun t271 => (if t271 = true then ((spec_pzWide.f a0_2).bind fun t272 => (some t272)) else (some false))) else (some false))) = some r := h
 clear h; replace H := Option.bind_eq_some_iff.mp H; obtain ⟨t270, A20, H⟩ := H; (try dsimp only at H); have A2 := Aside0.mk A20; clear A20
 by_cases c3 : t270 = true
 ·subst c3
  rw [if_pos rfl] at H; replace H := Option.bind_eq_some_iff.mp H; obtain ⟨t271, A40, H⟩ := H
  replace H : (if t271 = true then ((spec_pzWide.f a0_2).bind fun t272 => (some t272)) else (some false)) = some r := H
  have A4 := Aside0.mk A40; clear A40
  by_cases c5 : t271 = true
  ·subst c5
   rw [if_pos rfl] at H; replace H := Option.bind_eq_some_iff.mp H; obtain ⟨t272, A60, H⟩ := H
   replace H : (some t272) = some r := H
   have A6 := Aside0.mk A60; clear A60
   obtain rfl := Option.some.inj H
   go_enter Try.func41, Try.ntmps41
   go_wp2_with (first | ((with_reducible refine gate_dst (N := 1) rfl ?_); refine zE 1 #[.int .i64 a0_0, .int .i64 a0_1, .int .i64 a0_2] 25 ?_; intro gb269 hg w7 hbox hb; have BK269 := Aside0.mk (hbox); have GW269 := zg HB hg; have GE269 := GW269; replace HB := zh HB hb; clear hb hbox hg; obtain ⟨_, _, _, _, _, _⟩ := zc3 BK269) | ((with_reducible refine gate_callee (f := 66) rfl ?_); refine zG (some 5) Try.func66 #[.int .i64 a0_0] ?_; (with_reducible refine (spec_pzWide.calls a0_0 true _ A2.out).mono ?_); rintro e w' ⟨rfl, ⟨nd, rfl⟩⟩; refine ⟨_, rfl, ?_⟩) | (go_at_call 66; (with_reducible refine (spec_pzWide.calls a0_1 true _ A4.out).mono ?_); rintro e w' ⟨rfl, ⟨nd, rfl⟩⟩) | (go_at_call 66; (with_reducible refine (spec_pzWide.calls a0_2 t272 _ A6.out).mono ?_); rintro e w' ⟨rfl, ⟨nd, rfl⟩⟩))
   go_ret
   exact ⟨zt, zy HB⟩
  ·replace c5 := Bool.eq_false_iff.mpr c5
   subst c5; rw [if_neg (show ¬ (false = true) by decide)] at H
   obtain rfl := Option.some.inj H
   go_enter Try.func41, Try.ntmps41
   go_wp2_with (first | ((with_reducible refine gate_dst (N := 1) rfl ?_); refine zE 1 #[.int .i64 a0_0, .int .i64 a0_1, .int .i64 a0_2] 25 ?_; intro gb269 hg w9 hbox hb; have BK269 := Aside0.mk (hbox); have GW269 := zg HB hg; have GE269 := GW269; replace HB := zh HB hb; clear hb hbox hg; obtain ⟨_, _, _, _, _, _⟩ := zc3 BK269) | ((with_reducible refine gate_callee (f := 66) rfl ?_); refine zG (some 5) Try.func66 #[.int .i64 a0_0] ?_; (with_reducible refine (spec_pzWide.calls a0_0 true _ A2.out).mono ?_); rintro e w' ⟨rfl, ⟨nd, rfl⟩⟩; refine ⟨_, rfl, ?_⟩) | (go_at_call 66; (with_reducible refine (spec_pzWide.calls a0_1 false _ A4.out).mono ?_); rintro e w' ⟨rfl, ⟨nd, rfl⟩⟩))
   go_ret
   exact ⟨zt, zy HB⟩
 ·replace c3 := Bool.eq_false_iff.mpr c3
  subst c3; rw [if_neg (show ¬ (false = true) by decide)] at H
  obtain rfl := Option.some.inj H
  go_enter Try.func41, Try.ntmps41
  go_wp2_with (first | ((with_reducible refine gate_dst (N := 1) rfl ?_); refine zE 1 #[.int .i64 a0_0, .int .i64 a0_1, .int .i64 a0_2] 25 ?_; intro gb269 hg w11 hbox hb; have BK269 := Aside0.mk (hbox); have GW269 := zg HB hg; have GE269 := GW269; replace HB := zh HB hb; clear hb hbox hg; obtain ⟨_, _, _, _, _, _⟩ := zc3 BK269) | ((with_reducible refine gate_callee (f := 66) rfl ?_); refine zG (some 5) Try.func66 #[.int .i64 a0_0] ?_; (with_reducible refine (spec_pzWide.calls a0_0 false _ A2.out).mono ?_); rintro e w' ⟨rfl, ⟨nd, rfl⟩⟩; refine ⟨_, rfl, ?_⟩))
  go_ret
  exact ⟨zt, zy HB⟩


/-! ### spec_pzNext: function 43 -/
def spec_pzNext.f (a0 : Int) : Option (Int) := some (Int.tmod (wrap64 ((wrap64 (269 * a0)) + 1361)) 10007)
set_option maxHeartbeats 8000000 in
set_option maxRecDepth 100000 in
theorem spec_pzNext.calls (a0 : Int) (r : Int) (w : World) (h : spec_pzNext.f a0 = some r) :
  Calls Try.prog 43 #[.int .i64 a0] w fun e w' => e = .returned (.int .i64 r) ∧ Drawn0 w w' := by
 have H : (some (Int.tmod (wrap64 ((wrap64 (269 * a0)) + 1361)) 10007)) = some r := h
 clear h
 obtain rfl := Option.some.inj H
 go_enter Try.func43, Try.ntmps43
 go_wp2
 go_ret
 exact ⟨by first | rfl | (simp; done) | (simp [*]; done), by repeat (first | exact Drawn0.refl _ | apply Drawn0.step)⟩


/-! ### spec_clLow: function 79 -/
def spec_clLow.l0 : Nat → Int → Int → Int → Int → Option (Int × Int)
 | 0, _, _, _, _ => none
 | k + 1, x0, x1, x6, x7 => if x7 > 0 then (if x7 = 0 then (none) else (spec_clLow.l0 k x0 x1 x7 (Int.tmod x6 x7))) else (if x6 = 0 then (none) else (some (wrap64 (Int.tdiv x0 x6), wrap64 (Int.tdiv x1 x6))))
def spec_clLow.f (k : Nat) (a0 : Int) (a1 : Int) : Option (Int × Int) := spec_clLow.l0 k a0 a1 a0 a1
set_option maxHeartbeats 8000000 in
set_option maxRecDepth 100000 in
theorem spec_clLow.calls (k : Nat) (a0 : Int) (a1 : Int) (r1 : Int) (r2 : Int) (w : World) (h : spec_clLow.f k a0 a1 = some (r1, r2)) :
  Calls Try.prog 79 #[.int .i64 a0, .int .i64 a1] w fun e w' => e = .returned (.tuple #[.int .i64 r1, .int .i64 r2]) ∧ Drawn0 w w' := by
 have H : (spec_clLow.l0 k a0 a1 a0 a1) = some (r1, r2) := h
 clear h; have H' := Aside0.mk H; clear H
 go_enter Try.func79, Try.ntmps79
 go_wp2
 repeat (go_quiet (fail); try go_wp2)
 go_loopg [6, 7] k (fun kq v6 v7 w' => ∃ (x6_1 : Int) (x7_1 : Int), v6 = .int .i64 x6_1 ∧ v7 = .int .i64 x7_1 ∧ Aside0 (spec_clLow.l0 kq a0 a1 x6_1 x7_1 = some (r1, r2)) ∧ Aside0 (kq ≤ k) ∧ Drawn0 w w')
 case atStart => exact ⟨(a0), (a1), zu, zu, H', ⟨Nat.le_refl _⟩, by repeat (first | exact Drawn0.refl _ | apply Drawn0.step)⟩
 case round =>
  clear H'
  obtain ⟨x6_1, x7_1, rfl, rfl, HA, HK1, ⟨m1, rfl⟩⟩ := hrel
  cases gk with
  | zero => exact absurd HA.out (by simp [spec_clLow.l0])
  | succ k1 =>
   have H := HA.out; clear HA; simp only [spec_clLow.l0] at H
   by_cases c3 : x7_1 > 0
   ·rw [if_pos c3] at H
    have c3b0 : decide (0 < x7_1) = true := decide_eq_true c3; clear c3
    by_cases c4 : x7_1 = 0
    ·rw [if_pos c4] at H
     exact absurd H zO0_2
    ·rw [if_neg c4] at H
     have c4b0 : (x7_1 == 0) = false := beq_eq_false_iff_ne.mpr c4
     have c4b1 : (x7_1 != 0) = true := bne_iff_ne.mpr c4
     have H' := Aside0.mk H; clear H
     go_wp2
     repeat (go_quiet (fail); try go_wp2)
     go_roundg k1
     case measure => have := HK1.out; omega
     case rel => exact ⟨(x7_1), (Int.tmod x6_1 x7_1), zu, zu, H', ⟨by have := HK1.out; omega⟩, by repeat (first | exact Drawn0.refl _ | apply Drawn0.step)⟩
   ·rw [if_neg c3] at H
    have c3b0 : decide (0 < x7_1) = false := decide_eq_false c3; clear c3
    by_cases c5 : x6_1 = 0
    ·rw [if_pos c5] at H
     exact absurd H zO0_2
    ·rw [if_neg c5] at H
     have c5b0 : (x6_1 == 0) = false := beq_eq_false_iff_ne.mpr c5
     have c5b1 : (x6_1 != 0) = true := bne_iff_ne.mpr c5
     simp only [Option.some.injEq, Prod.mk.injEq] at H; obtain ⟨rfl, rfl⟩ := H
     go_wp2
     repeat (go_quiet (fail); try go_wp2)
     go_ret2
     exact ⟨by first | rfl | (simp; done) | (simp [*]; done), by repeat (first | exact Drawn0.refl _ | apply Drawn0.step)⟩


/-! ### spec_clSquares: function 80 -/
def spec_clSquares.f (a0_0 : Int) (a0_1 : Int) (a0_2 : Int) : Option (Int × Int) := some (wrap64 ((wrap64 (a0_0 * a0_0)) + (wrap64 (a0_1 * a0_1))), wrap64 ((wrap64 (a0_0 * a0_0)) + (wrap64 (a0_2 * a0_2))))
set_option maxHeartbeats 8000000 in
set_option maxRecDepth 100000 in
theorem spec_clSquares.calls (a0_0 : Int) (a0_1 : Int) (a0_2 : Int) (r1 : Int) (r2 : Int) (w : World) (h : spec_clSquares.f a0_0 a0_1 a0_2 = some (r1, r2)) :
  Calls Try.prog 80 #[.agg #[.int .i64 a0_0, .int .i64 a0_1, .int .i64 a0_2]] w fun e w' => e = .returned (.tuple #[.int .i64 r1, .int .i64 r2]) ∧ Below w.heap.size w w' := by
 have hu25 := Try.underlying25
 have HB := Aside0.mk (Below.refl w.heap.size w)
 have H : (some (wrap64 ((wrap64 (a0_0 * a0_0)) + (wrap64 (a0_1 * a0_1))), wrap64 ((wrap64 (a0_0 * a0_0)) + (wrap64 (a0_2 * a0_2))))) = some (r1, r2) := h
 clear h; simp only [Option.some.injEq, Prod.mk.injEq] at H; obtain ⟨rfl, rfl⟩ := H
 go_enter Try.func80, Try.ntmps80
 go_wp2_with (first | ((with_reducible refine gate_dst (N := 1) rfl ?_); refine zE 1 #[.int .i64 a0_0, .int .i64 a0_1, .int .i64 a0_2] 25 ?_; intro gb273 hg w2 hbox hb; have BK273 := Aside0.mk (hbox); have GW273 := zg HB hg; have GE273 := GW273; replace HB := zh HB hb; clear hb hbox hg; obtain ⟨_, _, _, _, _, _⟩ := zc3 BK273))
 repeat (go_quiet (first | ((with_reducible refine gate_dst (N := 1) rfl ?_); refine zE 1 #[.int .i64 a0_0, .int .i64 a0_1, .int .i64 a0_2] 25 ?_; intro gb273 hg w2 hbox hb; have BK273 := Aside0.mk (hbox); have GW273 := zg HB hg; have GE273 := GW273; replace HB := zh HB hb; clear hb hbox hg; obtain ⟨_, _, _, _, _, _⟩ := zc3 BK273)); try go_wp2_with (first | ((with_reducible refine gate_dst (N := 1) rfl ?_); refine zE 1 #[.int .i64 a0_0, .int .i64 a0_1, .int .i64 a0_2] 25 ?_; intro gb273 hg w2 hbox hb; have BK273 := Aside0.mk (hbox); have GW273 := zg HB hg; have GE273 := GW273; replace HB := zh HB hb; clear hb hbox hg; obtain ⟨_, _, _, _, _, _⟩ := zc3 BK273)))
 go_ret2
 exact ⟨zt, zy HB⟩


/-! ### spec_clRoot: function 81 -/
def spec_clRoot.l0 : Nat → Int → Int → Int → Option (Int)
 | 0, _, _, _ => none
 | k + 1, x0, x3, x4 => if x3 < (wrap64 (x4 - 1)) then (if (wrap64 ((wrap64 (Int.tdiv (wrap64 (x3 + x4)) 2)) * (wrap64 (Int.tdiv (wrap64 (x3 + x4)) 2)))) ≤ x0 then (spec_clRoot.l0 k x0 (wrap64 (Int.tdiv (wrap64 (x3 + x4)) 2)) x4) else (spec_clRoot.l0 k x0 x3 (wrap64 (Int.tdiv (wrap64 (x3 + x4)) 2)))) else (some x3)
def spec_clRoot.f (k : Nat) (a0 : Int) : Option (Int) := spec_clRoot.l0 k a0 0 2147483648
set_option maxHeartbeats 8000000 in
set_option maxRecDepth 100000 in
theorem spec_clRoot.calls (k : Nat) (a0 : Int) (r : Int) (w : World) (h : spec_clRoot.f k a0 = some r) :
  Calls Try.prog 81 #[.int .i64 a0] w fun e w' => e = .returned (.int .i64 r) ∧ Drawn0 w w' := by
 have H : (spec_clRoot.l0 k a0 0 2147483648) = some r := h
 clear h; have H' := Aside0.mk H; clear H
 go_enter Try.func81, Try.ntmps81
 go_wp2
 go_loopg [3, 4] k (fun kq v3 v4 w' => ∃ (x3_1 : Int) (x4_1 : Int), v3 = .int .i64 x3_1 ∧ v4 = .int .i64 x4_1 ∧ Aside0 (spec_clRoot.l0 kq a0 x3_1 x4_1 = some r) ∧ Aside0 (kq ≤ k) ∧ Drawn0 w w')
 case atStart => exact ⟨(0), (2147483648), zu, zu, H', ⟨Nat.le_refl _⟩, by repeat (first | exact Drawn0.refl _ | apply Drawn0.step)⟩
 case round =>
  clear H'
  obtain ⟨x3_1, x4_1, rfl, rfl, HA, HK1, ⟨m1, rfl⟩⟩ := hrel
  cases gk with
  | zero => exact absurd HA.out (by simp [spec_clRoot.l0])
  | succ k1 =>
   have H := HA.out; clear HA; simp only [spec_clRoot.l0] at H
   by_cases c2 : x3_1 < (wrap64 (x4_1 - 1))
   ·rw [if_pos c2] at H
    have c2b0 : decide (x3_1 < (wrap64 (x4_1 - 1))) = true := decide_eq_true c2; clear c2
    by_cases c3 : (wrap64 ((wrap64 (Int.tdiv (wrap64 (x3_1 + x4_1)) 2)) * (wrap64 (Int.tdiv (wrap64 (x3_1 + x4_1)) 2)))) ≤ a0
    ·rw [if_pos c3] at H
     have c3b0 : decide ((wrap64 ((wrap64 (Int.tdiv (wrap64 (x3_1 + x4_1)) 2)) * (wrap64 (Int.tdiv (wrap64 (x3_1 + x4_1)) 2)))) ≤ a0) = true := decide_eq_true c3; clear c3; have H' := Aside0.mk H; clear H
     go_wp2
     go_roundg k1
     case measure => have := HK1.out; omega
     case rel => exact ⟨(wrap64 (Int.tdiv (wrap64 (x3_1 + x4_1)) 2)), (x4_1), zu, zu, H', ⟨by have := HK1.out; omega⟩, by repeat (first | exact Drawn0.refl _ | apply Drawn0.step)⟩
    ·rw [if_neg c3] at H
     have c3b0 : decide ((wrap64 ((wrap64 (Int.tdiv (wrap64 (x3_1 + x4_1)) 2)) * (wrap64 (Int.tdiv (wrap64 (x3_1 + x4_1)) 2)))) ≤ a0) = false := decide_eq_false c3; clear c3; have H' := Aside0.mk H; clear H
     go_wp2
     go_roundg k1
     case measure => have := HK1.out; omega
     case rel => exact ⟨(x3_1), (wrap64 (Int.tdiv (wrap64 (x3_1 + x4_1)) 2)), zu, zu, H', ⟨by have := HK1.out; omega⟩, by repeat (first | exact Drawn0.refl _ | apply Drawn0.step)⟩
   ·rw [if_neg c2] at H
    have c2b0 : decide (x3_1 < (wrap64 (x4_1 - 1))) = false := decide_eq_false c2; clear c2
    obtain rfl := Option.some.inj H
    go_wp2
    go_ret
    exact ⟨by first | rfl | (simp; done) | (simp [*]; done), by repeat (first | exact Drawn0.refl _ | apply Drawn0.step)⟩

end Go.Proofs.Ytopoopkobfdjjaa.P
