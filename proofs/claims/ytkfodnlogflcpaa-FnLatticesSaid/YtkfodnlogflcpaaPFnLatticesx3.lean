-- Printed by the kit's print and repaired by a program of this session.
import Derived.Test.YtkfodnlogflcpaaPFnLatticesx0
namespace Go.Proofs.Ytkfodnlogflcpaa.PFnLattices
open Go.RowKit Go.Proofs.YtkfodnlogflcpaaW.PrintWords Go.Proofs.YtkfodnlogflcpaaW.PrintLast Go.Proofs.YtkfodnlogflcpaaW.PrintMore
attribute [local go_sem] max2_int min2_int max_two min_two max_three min_three max_four min_four
set_option linter.unusedVariables false
set_option linter.unusedSimpArgs false

/-! ### laws_big: function 11 -/
def laws_big.f (l0 : List Int) : Option (Bool) := some (decide ((l0.length : Int) > 4096))
set_option maxHeartbeats 8000000 in
set_option maxRecDepth 100000 in
theorem laws_big.calls (A0 : Option Addr) (c0 : Nat) (l0 : List Int) (r : Bool) (w : World) (hr0 : Kd.C (Kd.int .u8) w A0 l0.length l0) (hc0 : l0.length ≤ c0) (h : laws_big.f l0 = some r) :
  Calls Try.prog 11 #[.slice A0 l0.length c0] w fun e w' => e = .returned (.bool r) ∧ Drawn0 w w' := by
 have HR0 := Aside0.mk hr0
 have HC0 := Aside0.mk hc0
 clear hr0 hc0
 unfold laws_big.f at h
 have H := h
 clear h
 obtain rfl := Option.some.inj H
 go_enter Try.func11, Try.ntmps11
 go_wp2
 go_ret
 exact zx

/-! ### spec_l01Power: function 34 -/
def spec_l01Power.l0 : Nat → Int → Int → Int → Option (Int)
 | 0, _, _, _ => none
 | k + 1, x0, x1, x5 => if x1 > 0 then (spec_l01Power.l0 k x0 (wrap64 (x1 - 1)) (wrap64 (x5 * x0))) else (some x5)
def spec_l01Power.f (k : Nat) (a0 : Int) (a1 : Int) : Option (Int) := spec_l01Power.l0 k a0 a1 1
set_option maxHeartbeats 8000000 in
set_option maxRecDepth 100000 in
theorem spec_l01Power.calls (k : Nat) (a0 : Int) (a1 : Int) (r : Int) (w : World) (h : spec_l01Power.f k a0 a1 = some r) :
  Calls Try.prog 34 #[.int .i64 a0, .int .i64 a1] w fun e w' => e = .returned (.int .i64 r) ∧ Drawn0 w w' := by
 unfold spec_l01Power.f at h
 have H := h
 clear h
 have H' := Aside0.mk H
 clear H
 go_enter Try.func34, Try.ntmps34
 go_wp2
 go_loopg [1, 5] k (fun kq v1 v5 w' => ∃ (x1_1 : Int) (x5_1 : Int), v1 = .int .i64 x1_1 ∧ v5 = .int .i64 x5_1 ∧ Aside0 (spec_l01Power.l0 kq a0 x1_1 x5_1 = some r) ∧ Aside0 (kq ≤ k) ∧ Drawn0 w w')
 case atStart => exact ⟨(a1), (1), (by first | rfl | (simp; done) | (simp [*]; done)), (by first | rfl | (simp; done) | (simp [*]; done)), H', ⟨Nat.le_refl _⟩, by repeat (first | exact Drawn0.refl _ | apply Drawn0.step)⟩
 case round =>
  clear H'
  obtain ⟨x1_1, x5_1, rfl, rfl, HA, HK1, ⟨m1, rfl⟩⟩ := hrel
  cases gk with
  | zero => exact absurd HA.out (by simp [spec_l01Power.l0])
  | succ k1 =>
   have H := HA.out
   clear HA
   simp only [spec_l01Power.l0] at H
   replace H := ii H
   rcases H with ⟨c3, H⟩ | ⟨c3, H⟩
   ·have c3b0 := decide_eq_true c3
    clear c3
    have H' := Aside0.mk H
    clear H
    go_wp2
    go_roundg k1
    case measure => have := HK1.out; omega
    case rel => exact ⟨(wrap64 (x1_1 - 1)), (wrap64 (x5_1 * a0)), (by first | rfl | (simp; done) | (simp [*]; done)), (by first | rfl | (simp; done) | (simp [*]; done)), H', ⟨by have := HK1.out; omega⟩, by repeat (first | exact Drawn0.refl _ | apply Drawn0.step)⟩
   ·have c3b0 := decide_eq_false c3
    clear c3
    obtain rfl := Option.some.inj H
    go_wp2
    go_ret
    exact zx

/-- A state of type 101 at block g of W; what its slices lead to came in by w0. -/
def IsS101 (w0 W : World) (g : Nat) (f0 : List Int) (f1 : Int) (f2 : Int) : Prop := ∃ A0 c0, W.heap[g]? = some (.cells #[.slice A0 f0.length c0, .int .i64 f1, .int .u64 f2] 101 (0, 0)) ∧ w0.heap.size ≤ g ∧ Kd.C (Kd.int .u8) w0 A0 f0.length f0
theorem IsS101.grown {w0 W : World} {g : Nat} {f0 : List Int} {f1 : Int} {f2 : Int} {W1 : World} {row : Option Nat} (h : IsS101 w0 W g f0 f1 f2) (hw : W.grownBy W1 row) (hne : some g ≠ row) : IsS101 w0 W1 g f0 f1 f2 := by
 obtain ⟨A0, c0, hb, hg, hr0⟩ := h
 exact ⟨A0, c0, blk_grown hb hw hne, hg, hr0⟩
theorem IsS101.own_neN {w0 W : World} {g : Nat} {f0 : List Int} {f1 : Int} {f2 : Int} {α : Type} {d : Kd α} {e : Nat} {base : Nat} {ok : Nat → Prop} {v : Value} {xs : List α} (h : IsS101 w0 W g f0 f1 f2) (ho : Kd.N d e W base ok v xs) (ht : e ≠ 101) : some g ≠ v.ownBlock := by
 obtain ⟨A0, c0, hb, hg, hr0⟩ := h
 exact Kd.N_ne ho hb ht
theorem IsS101.fresh {w0 W : World} {g : Nat} {f0 : List Int} {f1 : Int} {f2 : Int} (h : IsS101 w0 W g f0 f1 f2) : ∀ k, W.heap.size ≤ k → k ≠ g := by
 obtain ⟨A0, c0, hb, hg, hr0⟩ := h
 exact Kd.freshB hb
theorem IsS101.kept {w0 W : World} {g : Nat} {f0 : List Int} {f1 : Int} {f2 : Int} {W1 : World} {S : Nat → Prop} (h : IsS101 w0 W g f0 f1 f2) (hk : Kept W W1 S) (hne : ¬ S g) : IsS101 w0 W1 g f0 f1 f2 := by
 obtain ⟨A0, c0, hb, hg, hr0⟩ := h
 exact ⟨A0, c0, blk_kept hb hk hne, hg, hr0⟩
theorem IsS101.below {w0 W : World} {g : Nat} {f0 : List Int} {f1 : Int} {f2 : Int} {W1 : World} (h : IsS101 w0 W g f0 f1 f2) (hw : Below W.heap.size W W1) : IsS101 w0 W1 g f0 f1 f2 := h.grown (grown_of_below hw none) (by simp)
theorem IsS101.alloc {w0 W : World} {g : Nat} {f0 : List Int} {f1 : Int} {f2 : Int} (h : IsS101 w0 W g f0 f1 f2) (o : Obj) : IsS101 w0 (W.alloc o) g f0 f1 f2 := h.below (below_alloc (Below.refl _ _) o)
theorem IsS101.drewN {w0 W : World} {g : Nat} {f0 : List Int} {f1 : Int} {f2 : Int} (h : IsS101 w0 W g f0 f1 f2) (m : Nat) : IsS101 w0 (W.drewN m) g f0 f1 f2 := h
theorem IsS101.drew {w0 W : World} {g : Nat} {f0 : List Int} {f1 : Int} {f2 : Int} (h : IsS101 w0 W g f0 f1 f2) : IsS101 w0 W.drew g f0 f1 f2 := h
theorem IsS101.at_ {w0 W : World} {g : Nat} {f0 : List Int} {f1 : Int} {f2 : Int} {w' : World} {m : Nat} (hq : W.drewN m = w') (h : IsS101 w0 W g f0 f1 f2) : IsS101 w0 w' g f0 f1 f2 := by subst hq; exact IsS101.drewN h m
theorem IsS101.apart {w0 W : World} {g : Nat} {f0 : List Int} {f1 : Int} {f2 : Int} {α : Type} {d : Kd α} {e : Nat} {base : Nat} {ok : Nat → Prop} {v : Value} {xs : List α} (h : IsS101 w0 W g f0 f1 f2) (ho : d.R e W base ok v xs) (ht : ∀ q, q ∈ e :: d.E → q ≠ 101) : d.R e W base (fun k => ok k ∧ k ≠ g) v xs := by
 obtain ⟨A0, c0, hb, hg, hr0⟩ := h
 exact Kd.R_types ho hb ht
theorem IsS101.own_ne {w0 W : World} {g : Nat} {f0 : List Int} {f1 : Int} {f2 : Int} {α : Type} {d : Kd α} {e : Nat} {base : Nat} {ok : Nat → Prop} {v : Value} {xs : List α} (h : IsS101 w0 W g f0 f1 f2) (ho : d.R e W base ok v xs) (ht : e ≠ 101) : some g ≠ v.ownBlock := by
 obtain ⟨A0, c0, hb, hg, hr0⟩ := h
 exact Kd.R_ne ho hb ht
theorem IsS101.apartQ {w0 W : World} {g : Nat} {f0 : List Int} {f1 : Int} {f2 : Int} {α : Type} {d : Kd α} {e : Nat} {base : Nat} {ok : Nat → Prop} {v : Value} {xs : List α} (h : IsS101 w0 W g f0 f1 f2) (ho : d.Q e W base ok v xs) (ht : ∀ q, q ∈ e :: d.E → q ≠ 101) : d.Q e W base (fun k => ok k ∧ k ≠ g) v xs := by
 obtain ⟨A0, c0, hb, hg, hr0⟩ := h
 exact Kd.Q_types ho hb ht
theorem IsS101.own_neQ {w0 W : World} {g : Nat} {f0 : List Int} {f1 : Int} {f2 : Int} {α : Type} {d : Kd α} {e : Nat} {base : Nat} {ok : Nat → Prop} {v : Value} {xs : List α} (h : IsS101 w0 W g f0 f1 f2) (ho : d.Q e W base ok v xs) (ht : e ≠ 101) : some g ≠ v.ownBlock := by
 obtain ⟨A0, c0, hb, hg, hr0⟩ := h
 exact Kd.Q_ne ho hb ht
theorem IsS101.apartS {w0 W : World} {g : Nat} {f0 : List Int} {f1 : Int} {f2 : Int} {α : Type} {d : Kd α} {e : Nat} {base : Nat} {ok : Nat → Prop} {v : Value} {xs : List α} (h : IsS101 w0 W g f0 f1 f2) (ho : d.S e W base ok v xs) (ht : ∀ q, q ∈ e :: d.E → q ≠ 101) : d.S e W base (fun k => ok k ∧ k ≠ g) v xs := by
 obtain ⟨A0, c0, hb, hg, hr0⟩ := h
 exact Kd.S_types ho hb ht
theorem IsS101.own_neS {w0 W : World} {g : Nat} {f0 : List Int} {f1 : Int} {f2 : Int} {α : Type} {d : Kd α} {e : Nat} {base : Nat} {ok : Nat → Prop} {v : Value} {xs : List α} (h : IsS101 w0 W g f0 f1 f2) (ho : d.S e W base ok v xs) (ht : e ≠ 101) : some g ≠ v.ownBlock := by
 obtain ⟨A0, c0, hb, hg, hr0⟩ := h
 exact Kd.S_ne ho hb ht
theorem IsS101.lt {w0 W : World} {g : Nat} {f0 : List Int} {f1 : Int} {f2 : Int} (h : IsS101 w0 W g f0 f1 f2) : g < W.heap.size := by
 obtain ⟨A0, c0, hb, hg, hr0⟩ := h
 exact blk_lt hb
theorem IsS101.ge {w0 W : World} {g : Nat} {f0 : List Int} {f1 : Int} {f2 : Int} (h : IsS101 w0 W g f0 f1 f2) : w0.heap.size ≤ g := by
 obtain ⟨A0, c0, hb, hg, hr0⟩ := h
 exact hg
theorem IsS101.ne_blk {w0 W : World} {g : Nat} {f0 : List Int} {f1 : Int} {f2 : Int} {a : Nat} {cs : Array Value} {t : TypeId} {fr : Nat × Nat} (h : IsS101 w0 W g f0 f1 f2) (hb2 : W.heap[a]? = some (.cells cs t fr)) (ht : t ≠ 101) : g ≠ a := by
 obtain ⟨A0, c0, hb, hg, hr0⟩ := h
 rintro rfl
 rw [hb] at hb2
 injection hb2 with hb2
 injection hb2 with _ ht2
 exact ht ht2.symm
theorem IsS101.far {w0 W : World} {g : Nat} {f0 : List Int} {f1 : Int} {f2 : Int} {p : Addr} (h : IsS101 w0 W g f0 f1 f2) (hne : g ≠ p.block) (u : Value) : IsS101 w0 (W.setCell p u) g f0 f1 f2 := by
 obtain ⟨A0, c0, hb, hg, hr0⟩ := h
 exact ⟨A0, c0, blk_far hb hne u, hg, hr0⟩
theorem cellS101_0 {W : World} {g : Nat} {A0 : Option Addr} {c0 : Nat} {f0 : List Int} {f1 : Int} {f2 : Int} (h : W.heap[g]? = some (.cells #[.slice A0 f0.length c0, .int .i64 f1, .int .u64 f2] 101 (0, 0))) : W.cell? ⟨g, 0, none⟩ = some (.slice A0 f0.length c0) := (blk_cell h 0).trans rfl
theorem cellS101_1 {W : World} {g : Nat} {A0 : Option Addr} {c0 : Nat} {f0 : List Int} {f1 : Int} {f2 : Int} (h : W.heap[g]? = some (.cells #[.slice A0 f0.length c0, .int .i64 f1, .int .u64 f2] 101 (0, 0))) : W.cell? ⟨g, 1, none⟩ = some (.int .i64 f1) := (blk_cell h 1).trans rfl
theorem IsS101.set_1 {w0 W : World} {g : Nat} {f0 : List Int} {f1 : Int} {f2 : Int} (h : IsS101 w0 W g f0 f1 f2) (x : Int) : IsS101 w0 (W.setCell ⟨g, 1, none⟩ (.int .i64 x)) g f0 x f2 := by
 obtain ⟨A0, c0, hb, hg, hr0⟩ := h
 exact ⟨A0, c0, by simpa using blk_set hb 1 (.int .i64 x), hg, hr0⟩
theorem cellS101_2 {W : World} {g : Nat} {A0 : Option Addr} {c0 : Nat} {f0 : List Int} {f1 : Int} {f2 : Int} (h : W.heap[g]? = some (.cells #[.slice A0 f0.length c0, .int .i64 f1, .int .u64 f2] 101 (0, 0))) : W.cell? ⟨g, 2, none⟩ = some (.int .u64 f2) := (blk_cell h 2).trans rfl
theorem IsS101.set_2 {w0 W : World} {g : Nat} {f0 : List Int} {f1 : Int} {f2 : Int} (h : IsS101 w0 W g f0 f1 f2) (x : Int) : IsS101 w0 (W.setCell ⟨g, 2, none⟩ (.int .u64 x)) g f0 f1 x := by
 obtain ⟨A0, c0, hb, hg, hr0⟩ := h
 exact ⟨A0, c0, by simpa using blk_set hb 2 (.int .u64 x), hg, hr0⟩
theorem IsS101.new (w0 W : World) (A0 : Option Addr) (c0 : Nat) (f0 : List Int) (f1 : Int) (f2 : Int) (hB : Below w0.heap.size w0 W) (hr0 : Kd.C (Kd.int .u8) w0 A0 f0.length f0) : IsS101 w0 (W.alloc (.cells #[.slice A0 f0.length c0, .int .i64 f1, .int .u64 f2] 101)) W.heap.size f0 f1 f2 := ⟨A0, c0, by simpa using heap_alloc_new W _, hB.size, hr0⟩
theorem is101 {w0 W : World} {g : Nat} {f0 : List Int} {f1 : Int} {f2 : Int} (h : IsS101 w0 W g f0 f1 f2 := by repeat (first | (with_reducible first | exact Aside0.out (by assumption) | apply IsS101.alloc | apply IsS101.drewN | apply IsS101.drew | apply IsS101.set_1 | apply IsS101.set_2 | refine IsS101.far ?_ (Aside0.out (by assumption)) _ | refine IsS101.far ?_ (Ne.symm (Aside0.out (by assumption))) _) | exact Aside0.out (by assumption))) : IsS101 w0 W g f0 f1 f2 := h
theorem ib101 {w W : World} (h : Below w.heap.size w W := by repeat (first | (with_reducible first | exact HB.out | apply below_alloc | apply pw_below_drewN | apply below_drew1 | refine below_set ?_ (Aside0.out (by assumption)) | refine below_set ?_ (IsS101.ge (Aside0.out (by assumption)))) | exact HB.out)) : Below w.heap.size w W := h
theorem IsS101.a {w0 W : World} {g : Nat} {f0 : List Int} {f1 : Int} {f2 : Int} (h : IsS101 w0 W g f0 f1 f2 := by repeat (first | (with_reducible first | exact HI0.out | apply IsS101.alloc | apply IsS101.drewN | apply IsS101.drew | apply IsS101.set_1 | apply IsS101.set_2 | refine IsS101.far ?_ (Aside0.out (by assumption)) _) | exact HI0.out)) : IsS101 w0 W g f0 f1 f2 := h
theorem IsS101.b {w W0 W : World} (hB : Aside0 (Below w.heap.size w W0) := by exact HB)
    (h : Below w.heap.size w W := by repeat (first | (with_reducible first | exact HB.out | apply below_alloc | apply pw_below_drewN | apply below_drew1 | refine below_set ?_ (IsS101.ge HI0.out) | refine below_set ?_ (Aside0.out (by assumption))) | exact HB.out)) : Below w.heap.size w W := h

/-! ### spec_l01From: function 45 -/
def spec_l01From.l0 : Nat → List Int → Int → List Int → Int → Int → Option (List Int × Int × Int)
 | 0, _, _, _, _, _ => none
 | k + 1, x0, x4, x102000, x102001, x102002 => if x4 < (x0.length : Int) then (if x4 < 4096 then (if 0 ≤ x4 then (spec_l01From.l0 k x0 (wrap64 (x4 + 1)) x102000 x102001 (IntKind.u64.wrap ((IntKind.u64.wrap ((IntKind.u64.wrap (x102002 * 1099511628211)) + (IntKind.u64.wrap (rd x0 x4)))) + 71))) else (none)) else (some (x102000, x102001, x102002))) else (some (x102000, x102001, x102002))
def spec_l01From.f (k : Nat) (l0 : List Int) : Option (List Int × Int × Int) := spec_l01From.l0 k l0 0 l0 0 (IntKind.u64.wrap (12527 + (IntKind.u64.wrap ((l0.length : Int)))))
def spec_l01From.T5 : Bool × List (List Nat × List Nat) := (true, [([], []), ([], []), ([1], [1]), ([2], [2]), ([3], [3]), ([4], [4]), ([], []), ([], []), ([6, 7], [6, 7]), ([8], [8]), ([9], [9]), ([5, 10], [5, 10]), ([11], [11]), ([0, 0, 1, 2, 3, 4, 5, 6, 7, 8, 9, 10, 11, 12], [0]), ([13, 0, 1, 2, 3, 4, 5, 6, 7, 8, 9, 10, 11, 12], [13]), ([14, 12, 0, 1, 2, 3, 4, 5, 6, 7, 8, 9, 10, 11, 12], [12, 14])])
def spec_l01From.B5 : List Nat := [0, 0, 2, 6, 14, 30, 0, 0, 192, 448, 960, 2046, 4094, 8191, 16383, 32767]
theorem spec_l01From.tab5 : rtab .any (opsOf Try.f45 5) = spec_l01From.T5 := by kernel_rfl
theorem spec_l01From.bits5 : waitsOk spec_l01From.T5.2 spec_l01From.B5 = true := by kernel_rfl
set_option maxHeartbeats 8000000 in
set_option maxRecDepth 100000 in
theorem spec_l01From.calls (k : Nat) (A0 : Option Addr) (c0 : Nat) (l0 : List Int) (r1 : List Int) (r2 : Int) (r3 : Int) (w0 w : World) (hB : Below w0.heap.size w0 w) (hr0 : Kd.C (Kd.int .u8) w0 A0 l0.length l0) (hc0 : l0.length ≤ c0) (h : spec_l01From.f k l0 = some (r1, r2, r3)) :
  Calls Try.prog 45 #[.slice A0 l0.length c0] w fun e w' => ∃ g_ : Nat, e = .returned (.pointer (some ⟨g_, 0, none⟩)) ∧ IsS101 w0 w' g_ r1 r2 r3 ∧ Below w0.heap.size w0 w' ∧ Below w.heap.size w w' := by
 have hu101 := Try.underlying101
 have HR0 := Aside0.mk hr0
 have HC0 := Aside0.mk hc0
 clear hr0 hc0
 have HBW := Aside0.mk (Below.refl w.heap.size w)
 have HW0 := Aside0.mk hB.size
 have HB := Aside0.mk hB
 clear hB
 unfold spec_l01From.f at h
 have H := h
 clear h
 have H' := Aside0.mk H
 clear H
 go_enter Try.func45, Try.ntmps45
 go_wp2_with (first | ((with_reducible refine zg 11 rfl ?_); refine zb 11 101 #[.slice A0 l0.length c0, .int .i64 0, .int .u64 (IntKind.u64.wrap (12527 + (IntKind.u64.wrap ((l0.length : Int)))))] ?_; intro gb101 hg w2 BK101 hb; have GW101 := Aside0.mk ((by rw [hg]; exact (below_size (by repeat (first | (with_reducible first | exact HBW.out | apply below_alloc | apply pw_below_drewN | apply below_drew1) | exact HBW.out))) : w.heap.size ≤ gb101)); have GE101 := Aside0.mk ((Nat.le_trans HW0.out (by rw [hg]; exact (below_size (by repeat (first | (with_reducible first | exact HBW.out | apply below_alloc | apply pw_below_drewN | apply below_drew1) | exact HBW.out))) : w.heap.size ≤ gb101) : w0.heap.size ≤ gb101)); replace HBW := Aside0.mk (below_step HBW.out hb); replace HB := bs hb; clear hb hg))
 go_loopg [4] k (fun kq v4 w' => ∃ (x4_1 : Int) (x102002_1 : Int), v4 = .int .i64 x4_1 ∧ Aside0 (spec_l01From.l0 kq l0 x4_1 l0 0 x102002_1 = some (r1, r2, r3)) ∧ Aside0 (kq ≤ k) ∧ Aside0 (w'.heap[gb101]? = some (.cells #[(.slice A0 l0.length c0), .int .i64 0, .int .u64 x102002_1] 101 (0, 0))) ∧ Aside0 (Below w0.heap.size w0 w') ∧ Aside0 (Below w.heap.size w w'))
 case atStart => exact ⟨(0), (IntKind.u64.wrap (12527 + (IntKind.u64.wrap ((l0.length : Int))))), (by first | rfl | (simp; done) | (simp [*]; done)), H', ⟨Nat.le_refl _⟩, ⟨be BK101⟩, ⟨bl⟩, ⟨by repeat (first | (with_reducible first | exact HBW.out | apply below_alloc | apply pw_below_drewN | apply below_drew1 | refine below_set ?_ GW101.out) | exact HBW.out)⟩⟩
 case round =>
  clear H'
  obtain ⟨x4_1, x102002_1, rfl, HA, HK1, BK101, HB, HBW⟩ := hrel
  cases gk with
  | zero => exact absurd HA.out (by simp [spec_l01From.l0])
  | succ k1 =>
   have H := HA.out
   clear HA
   simp only [spec_l01From.l0] at H
   replace H := ii H
   rcases H with ⟨c3, H⟩ | ⟨c3, H⟩
   ·have c3b0 := decide_eq_true c3
    clear c3
    replace H := ii H
    rcases H with ⟨c4, H⟩ | ⟨c4, H⟩
    ·have c4b0 := decide_eq_true c4
     clear c4
     replace H := ii H
     rcases H with ⟨c5, H⟩ | ⟨c5, H⟩
     ·have c5b0 := decide_eq_true c5
      clear c5
      have H' := Aside0.mk H
      clear H
      try go_wp2
      have n0_ := Aside0.mk (blk_drew BK101.out)
      have n1_ := Aside0.mk (below_drew1 HB.out)
      have n1w_ := Aside0.mk (below_drew1 HBW.out)
      clear BK101
      clear HB
      clear HBW
      have BK101 := n0_
      have HB := n1_
      have HBW := n1w_
      clear n0_ n1_
      have p102 : 0 ≤ (x4_1 : Int) := za
      have q102 : x4_1 < (l0.length : Int) := za
      obtain ⟨ad102, e102, hx102_0⟩ := Kd.at_int HR0.out x4_1 p102 q102
      have hw102_0 := hx102_0
      cases e102
      replace hx102_0 := pw_cell_below HB.out hx102_0
      replace p102 := eq_true p102
      replace q102 := eq_true q102
      refine start_ (n := 16) (S := fun w' => w'.cell? ⟨gb101, 0, none⟩ = some (.slice (some ad102) l0.length c0) ∧ w'.cell? ⟨gb101, 1, none⟩ = some (.int .i64 0) ∧ w'.cell? ⟨gb101, 2, none⟩ = some (.int .u64 x102002_1) ∧ w'.cell? (ad102.add (x4_1).toNat) = some (.int .u8 (rd l0 x4_1))) (ds := [15]) (tA 16 0) (by kernel_rfl) rfl rfl ⟨(blk_cell BK101.out 0).trans rfl, (blk_cell BK101.out 1).trans rfl, (blk_cell BK101.out 2).trans rfl, ((HB.out.cell (World.block_lt_of_cell? _ _ hw102_0)).trans hw102_0)⟩ (fun hHeld => ?_); refine with_tabW spec_l01From.tab5 spec_l01From.bits5 (fun HT_ HW_ => ?_)
      generalize wr.drew = w6 at BK101 HB HBW hx102_0 hHeld ⊢
      refine pu 0 (some 22) (tA 16 1) HT_ ?_
      refine pu 1 (some 23) (tA 16 3) HT_ ?_
      refine pu 2 (some 24) (tA 16 7) HT_ ?_
      refine pu 3 (some 25) (tA 16 15) HT_ ?_
      refine pu 6 (some 28) (tA 16 79) HT_ ?_
      refine pu 7 (some 29) (tA 16 207) HT_ ?_
      refine pu 8 (some 30) (tA 16 463) HT_ ?_
      refine tk4 4 (some 26) (tA 16 479) HT_ HW_ hHeld ?_
      refine pu 5 (some 27) (tA 16 511) HT_ ?_
      refine tk4 9 (some 31) (tA 16 1023) HT_ HW_ hHeld ?_
      refine pu 10 (some 32) (tA 16 2047) HT_ ?_
      refine pu 11 (some 33) (tA 16 4095) HT_ ?_
      refine pu 12 (some 34) (tA 16 8191) HT_ ?_
      refine pu 13 (some 35) (tA 16 16383) HT_ ?_
      refine pu 14 (some 36) (tA 16 32767) HT_ ?_
      refine last_ (i := 15) (N := none) (tA 16 65535) rfl rfl (one_of HT_.out (by kernel_rfl)) (by decide) (fun K hK => ?_)
      have hs7 : w6.cell? ⟨gb101, 2, none⟩ = some (.int .u64 x102002_1) := (blk_cell BK101.out 2).trans rfl
      have hfs7 := blk_frozen BK101.out 2
      refine skip_ (w1 := ?_) (by rfl) rfl ?_ ?_
      rotate_left
      ·go_simp
       rfl
      refine hK.out _ _ ?_
      clear hK K
      refine done_ (done_of HT_.out (by kernel_rfl)) ?_
      try go_wp2
      go_roundg k1
      case measure => have := HK1.out; omega
      case rel => exact ⟨(wrap64 (x4_1 + 1)), (IntKind.u64.wrap ((IntKind.u64.wrap ((IntKind.u64.wrap (x102002_1 * 1099511628211)) + (IntKind.u64.wrap (rd l0 x4_1)))) + 71)), (by first | rfl | (simp; done) | (simp [*]; done)), H', ⟨by have := HK1.out; omega⟩, ⟨bp⟩, ⟨bl⟩, ⟨by repeat (first | (with_reducible first | exact HBW.out | apply below_alloc | apply pw_below_drewN | apply below_drew1 | refine below_set ?_ GW101.out) | exact HBW.out)⟩⟩
     ·exact absurd H (by simp)
    ·have c4b0 := decide_eq_false c4
     clear c4
     simp only [Option.some.injEq, Prod.mk.injEq] at H
     obtain ⟨rfl, rfl, rfl⟩ := H
     go_wp2
     go_ret
     exact ⟨_, rfl, (show IsS101 w0 _ gb101 l0 0 x102002_1 from ⟨_, _, bp, GE101.out, HR0.out⟩), bl, by repeat (first | (with_reducible first | exact HBW.out | apply below_alloc | apply pw_below_drewN | apply below_drew1 | refine below_set ?_ GW101.out) | exact HBW.out)⟩
   ·have c3b0 := decide_eq_false c3
    clear c3
    simp only [Option.some.injEq, Prod.mk.injEq] at H
    obtain ⟨rfl, rfl, rfl⟩ := H
    go_wp2
    go_ret
    exact ⟨_, rfl, (show IsS101 w0 _ gb101 l0 0 x102002_1 from ⟨_, _, bp, GE101.out, HR0.out⟩), bl, by repeat (first | (with_reducible first | exact HBW.out | apply below_alloc | apply pw_below_drewN | apply below_drew1 | refine below_set ?_ GW101.out) | exact HBW.out)⟩

/-! ### spec_l01Next: function 47 -/
def spec_l01Next.f (s0_0 : List Int) (s0_1 : Int) (s0_2 : Int) (a1 : Int) : Option (Int × Int × Int) := if a1 < 1 then (some (0, s0_1, s0_2)) else (if s0_1 < (s0_0.length : Int) then (if 0 ≤ s0_1 then (if a1 = 0 then (none) else (some (Int.tmod (wrap64 ((wrap64 (Go.bits .and .u64 ((IntKind.u64.wrap ((IntKind.u64.wrap (s0_2 * 6364136223846793005)) + 1442695040888963407)) / 8388608) 17179869183)) + (wrap64 (rd s0_0 s0_1)))) a1, wrap64 (s0_1 + 1), IntKind.u64.wrap ((IntKind.u64.wrap (s0_2 * 6364136223846793005)) + 1442695040888963407)))) else (none)) else (if a1 = 0 then (none) else (some (Int.tmod (wrap64 (Go.bits .and .u64 ((IntKind.u64.wrap ((IntKind.u64.wrap (s0_2 * 6364136223846793005)) + 1442695040888963407)) / 8388608) 17179869183)) a1, s0_1, IntKind.u64.wrap ((IntKind.u64.wrap (s0_2 * 6364136223846793005)) + 1442695040888963407)))))
set_option maxHeartbeats 8000000 in
set_option maxRecDepth 100000 in
theorem spec_l01Next.calls (g : Nat) (s0_0 : List Int) (s0_1 : Int) (s0_2 : Int) (a1 : Int) (r1 : Int) (r2 : Int) (r3 : Int) (w0 w : World) (hI : IsS101 w0 w g s0_0 s0_1 s0_2) (hB : Below w0.heap.size w0 w) (h : spec_l01Next.f s0_0 s0_1 s0_2 a1 = some (r1, r2, r3)) :
  Calls Try.prog 47 #[.pointer (some ⟨g, 0, none⟩), .int .i64 a1] w fun e w' => e = .returned (.int .i64 r1) ∧ IsS101 w0 w' g s0_0 r2 r3 ∧ Below w0.heap.size w0 w' ∧ KeepBut w w' g none := by
 have HI0 := Aside0.mk hI
 have HK := Aside0.mk (KeepBut.refl w g none)
 have HL := Aside0.mk hB.size
 clear hI
 have HW0 := Aside0.mk hB.size
 have HB := Aside0.mk hB
 clear hB
 unfold spec_l01Next.f at h
 have H := h
 clear h
 replace H := ii H
 rcases H with ⟨c3, H⟩ | ⟨c3, H⟩
 ·have c3b0 := decide_eq_true c3
  clear c3
  simp only [Option.some.injEq, Prod.mk.injEq] at H
  obtain ⟨rfl, rfl, rfl⟩ := H
  go_enter Try.func47, Try.ntmps47
  go_wp2
  go_ret
  exact ⟨er, IsS101.a, IsS101.b, kl⟩
 ·have c3b0 := decide_eq_false c3
  clear c3
  replace H := ii H
  rcases H with ⟨c4, H⟩ | ⟨c4, H⟩
  ·have c4b0 := decide_eq_true c4
   clear c4
   replace H := ii H
   rcases H with ⟨c5, H⟩ | ⟨c5, H⟩
   ·have c5b0 := decide_eq_true c5
    clear c5
    replace H := ii H
    rcases H with ⟨c6, H⟩ | ⟨c6, H⟩
    ·exact absurd H (by simp)
    ·obtain ⟨c6b0, c6b1⟩ := zy c6
     simp only [Option.some.injEq, Prod.mk.injEq] at H
     obtain ⟨rfl, rfl, rfl⟩ := H
     obtain ⟨ASz7_0, cSz7_0, HGz7, hgz7, HSz7_0⟩ := HI0.out
     have hcz7_0 := cellS101_0 HGz7
     have hcz7_1 := cellS101_1 HGz7
     have hcz7_2 := cellS101_2 HGz7
     have hfz7_1 := blk_frozen HGz7 1
     have hfz7_2 := blk_frozen HGz7 2
     clear HGz7 hgz7
     have p103 : 0 ≤ (s0_1 : Int) := za
     have q103 : s0_1 < (s0_0.length : Int) := za
     obtain ⟨ad103, e103, hx103_0⟩ := Kd.at_int HSz7_0 s0_1 p103 q103
     cases e103
     have hn103_0 : ad103.block ≠ g := Nat.ne_of_lt (Nat.lt_of_lt_of_le (by have := World.block_lt_of_cell? _ _ hx103_0; first | rwa [add_block] at this | exact this) (IsS101.ge HI0.out))
     replace hx103_0 := pw_cell_below HB.out hx103_0
     replace hx103_0 := (cell_far (p := ⟨g, 2, none⟩) (by first | (rw [add_block]; exact hn103_0) | (show (Addr.add _ _).block ≠ _; rw [add_block]; exact hn103_0) | exact hn103_0) (.int .u64 (IntKind.u64.wrap ((IntKind.u64.wrap (s0_2 * 6364136223846793005)) + 1442695040888963407)))).trans hx103_0
     (try have hy103_0 := fun (n_ : Nat) => (show (((w.drewN n_).setCell ⟨g, 2, none⟩ (.int .u64 (IntKind.u64.wrap ((IntKind.u64.wrap (s0_2 * 6364136223846793005)) + 1442695040888963407))))).cell? _ = some _ from hx103_0))
     clear hn103_0
     replace p103 := eq_true p103
     replace q103 := eq_true q103
     go_enter Try.func47, Try.ntmps47
     go_wp2
     repeat (go_quiet (fail); try go_wp2)
     go_ret
     exact ⟨er, IsS101.a, IsS101.b, kl⟩
   ·exact absurd H (by simp)
  ·have c4b0 := decide_eq_false c4
   clear c4
   replace H := ii H
   rcases H with ⟨c8, H⟩ | ⟨c8, H⟩
   ·exact absurd H (by simp)
   ·obtain ⟨c8b0, c8b1⟩ := zy c8
    simp only [Option.some.injEq, Prod.mk.injEq] at H
    obtain ⟨rfl, rfl, rfl⟩ := H
    obtain ⟨ASz9_0, cSz9_0, HGz9, hgz9, HSz9_0⟩ := HI0.out
    have hcz9_0 := cellS101_0 HGz9
    have hcz9_1 := cellS101_1 HGz9
    have hcz9_2 := cellS101_2 HGz9
    have hfz9_1 := blk_frozen HGz9 1
    have hfz9_2 := blk_frozen HGz9 2
    clear HGz9 hgz9
    go_enter Try.func47, Try.ntmps47
    go_wp2
    repeat (go_quiet (fail); try go_wp2)
    go_ret
    exact ⟨er, IsS101.a, IsS101.b, kl⟩

/-! ### spec_l01Pick: function 46 -/
def spec_l01Pick.f (s0_0 : List Int) (s0_1 : Int) (s0_2 : Int) (l1 : List Int) : Option (Int × Int × Int) := (spec_l01Next.f s0_0 s0_1 s0_2 (l1.length : Int)).bind fun bt104 => (if 0 ≤ bt104.1 then (if bt104.1 < (l1.length : Int) then (some (rd l1 bt104.1, bt104.2.1, bt104.2.2)) else (none)) else (none))
set_option maxHeartbeats 8000000 in
set_option maxRecDepth 100000 in
theorem spec_l01Pick.calls (g : Nat) (s0_0 : List Int) (s0_1 : Int) (s0_2 : Int) (A1 : Option Addr) (c1 : Nat) (l1 : List Int) (r1 : Int) (r2 : Int) (r3 : Int) (w0 w : World) (hI : IsS101 w0 w g s0_0 s0_1 s0_2) (hB : Below w0.heap.size w0 w) (hr1 : Kd.C (Kd.int .i64) w A1 l1.length l1) (hc1 : l1.length ≤ c1) (hf1 : ∀ ad, A1 = some ad → 0 < l1.length → ad.block ≠ g) (h : spec_l01Pick.f s0_0 s0_1 s0_2 l1 = some (r1, r2, r3)) :
  Calls Try.prog 46 #[.pointer (some ⟨g, 0, none⟩), .slice A1 l1.length c1] w fun e w' => e = .returned (.int .i64 r1) ∧ IsS101 w0 w' g s0_0 r2 r3 ∧ Below w0.heap.size w0 w' ∧ KeepBut w w' g none := by
 have HR1 := Aside0.mk hr1
 have HC1 := Aside0.mk hc1
 clear hr1 hc1
 have HI0 := Aside0.mk hI
 have HK := Aside0.mk (KeepBut.refl w g none)
 have HL := Aside0.mk hB.size
 clear hI
 have HW0 := Aside0.mk hB.size
 have HB := Aside0.mk hB
 clear hB
 unfold spec_l01Pick.f at h
 have H := h
 clear h
 replace H := zi H
 obtain ⟨⟨t104, t105, t106⟩, A3, H⟩ := H
 try dsimp only at H
 replace H := ii H
 rcases H with ⟨c4, H⟩ | ⟨c4, H⟩
 ·have c4b0 := decide_eq_true c4
  clear c4
  replace H := ii H
  rcases H with ⟨c5, H⟩ | ⟨c5, H⟩
  ·have c5b0 := decide_eq_true c5
   clear c5
   simp only [Option.some.injEq, Prod.mk.injEq] at H
   obtain ⟨rfl, rfl, rfl⟩ := H
   go_enter Try.func46, Try.ntmps46
   go_wp2_with (first | ((with_reducible refine zf 47 rfl ?_); refine g1 (some 9) Try.func47 #[.pointer (some ⟨g, 0, none⟩), .int .i64 (l1.length : Int)] ?_; (with_reducible refine (spec_l01Next.calls g s0_0 s0_1 s0_2 (l1.length : Int) t104 t105 t106 w0 _ ?side1 ?side2 A3.out).mono ?_); (case side1 => exact IsS101.a); (case side2 => exact IsS101.b); rintro e w6 ⟨rfl, hi, hb, hk⟩; refine ⟨_, rfl, ?_⟩; replace HK := Aside0.mk (KeepBut.trans (kl) hk (.inl rfl)); replace HI0 := Aside0.mk (hi); replace HB := Aside0.mk (hb); (try clear hb hk); have p107 : 0 ≤ (t104 : Int) := of_decide_eq_true (by first | (with_reducible assumption) | assumption); have q107 : t104 < (l1.length : Int) := of_decide_eq_true (by first | (with_reducible assumption) | assumption); obtain ⟨ad107, e107, hx107_0⟩ := Kd.at_int HR1.out t104 p107 q107; cases e107; replace hx107_0 := keep_cell HK.out hx107_0 (by first | (rw [add_block]; exact hf1 _ rfl (by omega)) | exact hf1 _ rfl (by omega) | exact hf1 ad107 rfl (by omega)); replace p107 := eq_true p107; replace q107 := eq_true q107))
   go_ret
   exact ⟨er, IsS101.a, IsS101.b, kl⟩
  ·exact absurd H (by simp)
 ·exact absurd H (by simp)

namespace Kd
theorem arr_new {w1 : World} {g base : Nat} {ok : Nat → Prop} (h : w1.heap[g]? = some (.cells #[.int .i64 0, .int .i64 0, .int .i64 0, .int .i64 0] 74 (0, 0))) (hb : base ≤ g) (hk : ok g) :
  Kd.R (Kd.int .i64) 74 w1 base ok (.slice (some ⟨g, 0, none⟩) 4 4) ([0, 0, 0, 0] : List Int) :=
 Kd.R_of_own ⟨rfl, .inr ⟨g, 4, _, rfl, hb, h, Nat.le_refl _, by decide, rfl, rfl⟩⟩ (fun k e => by simp [Value.ownBlock] at e; exact e ▸ hk)
theorem arr_zero {w1 : World} {g base : Nat} {ok : Nat → Prop} {y : List Int} (hy : y = [0, 0, 0, 0]) (h : Kd.R (Kd.int .i64) 74 w1 base ok (.slice (some ⟨g, 0, none⟩) 4 4) y) :
  Kd.R (Kd.int .i64) 74 ((((w1.setCell ⟨g, 0, none⟩ (.int .i64 0)).setCell ⟨g, 1, none⟩ (.int .i64 0)).setCell ⟨g, 2, none⟩ (.int .i64 0)).setCell ⟨g, 3, none⟩ (.int .i64 0)) base ok (.slice (some ⟨g, 0, none⟩) 4 4) y := by
 subst hy
 have h1 := (Kd.R_putg h 0 0).1
 have h2 := (Kd.R_putg h1 1 0).1
 have h3 := (Kd.R_putg h2 2 0).1
 exact (Kd.R_putg h3 3 0).1
end Kd
theorem arr_ne {a b : Nat} {n c : Nat} (h : some a ≠ (Value.slice (some ⟨b, 0, none⟩) n c).ownBlock) : a ≠ b := by
 intro e; subst e; exact h rfl
theorem arr_form {a b n c : Nat} (h : (Value.slice (some ⟨a, 0, none⟩) 4 4) = .slice (some ⟨b, 0, none⟩) n c) : a = b ∧ n = 4 ∧ 4 = c := by
 simp only [Value.slice.injEq, Option.some.injEq, Addr.mk.injEq] at h
 omega
theorem arr_cells {w1 : World} {g : Nat} {a b c d : Value} (h : w1.heap[g]? = some (.cells #[a, b, c, d] 74 (0, 0))) :
  w1.cell? ⟨g, 0, none⟩ = some a ∧ w1.cell? ⟨g, 1, none⟩ = some b ∧ w1.cell? ⟨g, 2, none⟩ = some c ∧ w1.cell? ⟨g, 3, none⟩ = some d ∧ w1.frozen? ⟨g, 0, none⟩ = false ∧ w1.frozen? ⟨g, 1, none⟩ = false ∧ w1.frozen? ⟨g, 2, none⟩ = false ∧ w1.frozen? ⟨g, 3, none⟩ = false :=
 ⟨(blk_cell h 0).trans rfl, (blk_cell h 1).trans rfl, (blk_cell h 2).trans rfl, (blk_cell h 3).trans rfl, blk_frozen h 0, blk_frozen h 1, blk_frozen h 2, blk_frozen h 3⟩
/-! ### spec_DrawLatticeOf: function 12 -/
def spec_DrawLatticeOf.l0 : Nat → Int → List Int → Int → List Int → Int → Int → Option (Int × Int × Int × Int × Int)
 | 0, _, _, _, _, _, _ => none
 | k + 1, x8, x9, x10, x112000, x112001, x112002 => if x10 < 4 then ((spec_l01Next.f x112000 x112001 x112002 20).bind fun bt121 => ((spec_l01Next.f x112000 bt121.2.1 bt121.2.2 5).bind fun bt124 => ((spec_l01Power.f k (mx x8 2) bt124.1).bind fun t127 => ((spec_l01Next.f x112000 bt124.2.1 bt124.2.2 9).bind fun bt128 => ((spec_l01Next.f x112000 bt128.2.1 bt128.2.2 2000001).bind fun bt131 => ((spec_l01Pick.f x112000 bt131.2.1 bt131.2.2 (([wrap64 (bt121.1 - 10), wrap64 (t127 * (wrap64 (bt128.1 - 4))), wrap64 (bt131.1 - 1000000), 0] : List Int))).bind fun bt137 => (if 0 ≤ x10 then (if x10 < (x9.length : Int) then (spec_DrawLatticeOf.l0 k x8 (x9.set (x10 : Int).toNat bt137.1) (wrap64 (x10 + 1)) x112000 bt137.2.1 bt137.2.2) else (none)) else (none)))))))) else ((spec_l01Next.f x112000 x112001 x112002 30).bind fun bt141 => (if bt141.1 = 0 then ((spec_l01Next.f x112000 bt141.2.1 bt141.2.2 4).bind fun bt144 => ((spec_l01Pick.f x112000 bt144.2.1 bt144.2.2 (([1000001, (-1000001)] : List Int))).bind fun bt150 => (if 0 ≤ bt144.1 then (if bt144.1 < (x9.length : Int) then ((some (x9.set (bt144.1 : Int).toNat bt150.1 : List Int)).bind fun y153 => (if 0 < (x9.length : Int) then (if 1 < (x9.length : Int) then (if 2 < (x9.length : Int) then (if 3 < (x9.length : Int) then (some (x8, rd y153 0, rd y153 1, rd y153 2, rd y153 3)) else (none)) else (none)) else (none)) else (none))) else (none)) else (none)))) else (if bt141.1 = 1 then (if 0 < (x9.length : Int) then (if 2 < (x9.length : Int) then ((some (x9.set (2 : Int).toNat (rd x9 0) : List Int)).bind fun y159 => (if 1 < (x9.length : Int) then (if 3 < (x9.length : Int) then ((some (y159.set (3 : Int).toNat (rd y159 1) : List Int)).bind fun y161 => (some (x8, rd y161 0, rd y161 1, rd y161 2, rd y161 3))) else (none)) else (none))) else (none)) else (none)) else (if 0 < (x9.length : Int) then (if 1 < (x9.length : Int) then (if 2 < (x9.length : Int) then (if 3 < (x9.length : Int) then (some (x8, rd x9 0, rd x9 1, rd x9 2, rd x9 3)) else (none)) else (none)) else (none)) else (none)))))
def spec_DrawLatticeOf.f (k : Nat) (l0 : List Int) : Option (Int × Int × Int × Int × Int) := (spec_l01From.f k l0).bind fun bt108 => ((spec_l01Pick.f bt108.1 bt108.2.1 bt108.2.2 (([2, 3, 5, 7, 2, 3, 4] : List Int))).bind fun bt115 => (spec_DrawLatticeOf.l0 k bt115.1 (([0, 0, 0, 0] : List Int)) 0 bt108.1 bt115.2.1 bt115.2.2))
set_option maxHeartbeats 8000000 in
set_option maxRecDepth 100000 in
theorem spec_DrawLatticeOf.calls (k : Nat) (A0 : Option Addr) (c0 : Nat) (l0 : List Int) (r1 : Int) (r2 : Int) (r3 : Int) (r4 : Int) (r5 : Int) (w : World) (hr0 : Kd.C (Kd.int .u8) w A0 l0.length l0) (hc0 : l0.length ≤ c0) (h : spec_DrawLatticeOf.f k l0 = some (r1, r2, r3, r4, r5)) :
  Calls Try.prog 12 #[.slice A0 l0.length c0] w fun e w' => e = .returned (.tuple #[.int .i64 r1, .int .i64 r2, .int .i64 r3, .int .i64 r4, .int .i64 r5]) ∧ Below w.heap.size w w' := by
 have HR0 := Aside0.mk hr0
 have HC0 := Aside0.mk hc0
 clear hr0 hc0
 have HB := Aside0.mk (Below.refl w.heap.size w)
 unfold spec_DrawLatticeOf.f at h
 have H := h
 clear h
 replace H := zi H
 obtain ⟨⟨t108, t109, t110⟩, A2, H⟩ := H
 try dsimp only at H
 obtain ⟨y112, hy112⟩ : ∃ y_ : List Int, y_ = (([2, 3, 5, 7, 2, 3, 4] : List Int)) := ⟨_, rfl⟩
 replace H : ((spec_l01Pick.f t108 t109 t110 y112).bind fun bt115 => (spec_DrawLatticeOf.l0 k bt115.1 (([0, 0, 0, 0] : List Int)) 0 t108 bt115.2.1 bt115.2.2)) = some (r1, r2, r3, r4, r5) := by first | exact hy112 ▸ H | exact H
 have Ny112 := Aside0.mk hy112
 clear hy112
 replace H := zi H
 obtain ⟨⟨t115, t116, t117⟩, A3, H⟩ := H
 try dsimp only at H
 obtain ⟨y118, hy118⟩ : ∃ y_ : List Int, y_ = (([0, 0, 0, 0] : List Int)) := ⟨_, rfl⟩
 replace H : (spec_DrawLatticeOf.l0 k t115 y118 0 t108 t116 t117) = some (r1, r2, r3, r4, r5) := by first | exact hy118 ▸ H | exact H
 have Ny118 := Aside0.mk hy118
 clear hy118
 have H' := Aside0.mk H
 clear H
 go_enter Try.func12, Try.ntmps12
 go_wp2_with (first | (go_at_call 45; (with_reducible refine (spec_l01From.calls k _ _ l0 t108 t109 t110 w _ ?side1 ?side2 ?side3 A2.out).mono ?_); (case side1 => exact bl); (case side2 => exact HR0.out); (case side3 => exact HC0.out); rintro e w4 ⟨g111, rfl, hi, hb, hb2⟩; have HI111 := Aside0.mk (hi); replace HB := Aside0.mk (hb); (try clear hb); (try clear hb2); (try clear hk); (try clear hi)) | ((with_reducible refine zg 14 rfl ?_); refine Kd.R_lit (Kd.int .i64) _ 2 ?hg (N := 14) ?hd (xs := ([2, 3, 5, 7, 2, 3, 4] : List Int)) (inner := [.int .i64 2, .int .i64 3, .int .i64 5, .int .i64 7, .int .i64 2, .int .i64 3, .int .i64 4]) (ok := fun _ => True) (okp := fun _ => True) ?hr ?hp (fun _ hk => hk) trivial (Below.refl _ _) (Nat.le_refl _) (by simp) ?_; (case hd => rfl); (case hg => rfl); (case hr => first | (go_simp; done) | (go_simp; rfl)); (case hp => exact (Reps.one (show Kd.M (Kd.int .i64) _ _ _ 2 [.int .i64 2] from rfl) (Reps.one (show Kd.M (Kd.int .i64) _ _ _ 3 [.int .i64 3] from rfl) (Reps.one (show Kd.M (Kd.int .i64) _ _ _ 5 [.int .i64 5] from rfl) (Reps.one (show Kd.M (Kd.int .i64) _ _ _ 7 [.int .i64 7] from rfl) (Reps.one (show Kd.M (Kd.int .i64) _ _ _ 2 [.int .i64 2] from rfl) (Reps.one (show Kd.M (Kd.int .i64) _ _ _ 3 [.int .i64 3] from rfl) (Reps.one (show Kd.M (Kd.int .i64) _ _ _ 4 [.int .i64 4] from rfl) (Reps.none _ _))))))))); intro v113 w5 ho6 hb hg_ hnew_; clear hg_ hnew_; (first | rw [← Ny112.out] at ho6 | (simp only [Int.reduceToNat] at ho6; rw [← Ny112.out] at ho6)); have HO114 := Aside0.mk (Kd.R_lower ho6 (below_size (ib101))); replace HB := Aside0.mk (below_step (ib101) hb); replace HI111 := Aside0.mk (IsS101.below (is101) hb); clear hb ho6; obtain ⟨Ao7, co7, eo7⟩ := Kd.R_slice HO114.out; subst eo7) | (go_at_call 46; (with_reducible refine (spec_l01Pick.calls g111 t108 t109 t110 _ _ y112 t115 t116 t117 w _ ?side1 ?side2 ?side3 ?side4 ?side5 A3.out).mono ?_); (case side1 => exact is101); (case side2 => exact ib101); (case side3 => repeat (first | exact (Kd.R_reads' HO114.out).2.2 | (with_reducible refine Kd.C_alloc ?_ _) | (with_reducible refine Kd.C_drewN ?_ _) | (with_reducible refine Kd.C_drew ?_))); (case side4 => exact (Kd.R_reads' HO114.out).2.1); (case side5 => exact far_slice (IsS101.own_ne HI111.out HO114.out (by decide))); rintro e w8 ⟨rfl, hi, hb, hk⟩; replace HO114 := Aside0.mk (Kd.R_mono (Kd.R_keep (IsS101.apart (show IsS101 w _ g111 t108 t109 t110 from by exact is101) (by (with_reducible repeat (first | apply Kd.R_alloc | apply Kd.R_drewN | apply Kd.R_drew)); exact HO114.out) (by decide)) hk (fun _ h => h.2)) (fun _ h => h.1)); replace HI111 := Aside0.mk (hi); replace HB := Aside0.mk (hb); (try clear hb hk)) | ((with_reducible refine zg 9 rfl ?_); refine bx (N := 9) (cs := #[.int .i64 0, .int .i64 0, .int .i64 0, .int .i64 0]) (t := 74) ?_; intro ga hg w9 hbox hb; have n1_ := Aside0.mk (Kd.arr_new (ok := fun _ => True) hbox (show w.heap.size ≤ ga by rw [hg]; exact below_size (ib101)) trivial); rw [← Ny118.out] at n1_; have n2_ := Aside0.mk (IsS101.below (is101) hb); have n3_ := Aside0.mk (below_step (ib101) hb); have n4_ := Aside0.mk (show w.heap.size ≤ ga by rw [hg]; exact below_size (ib101)); have hzA := Aside0.mk hbox; clear HO114; clear HI111; clear HB; have HO120 := Aside0.mk (Kd.arr_zero Ny118.out n1_.out); have NBA := Aside0.mk (arr_ne (IsS101.own_ne n2_.out n1_.out (by decide))); have HI111 := n2_; have HB := n3_; have GBA := n4_; clear n1_ n2_ n3_ n4_; clear hb hg; obtain ⟨hz0_, hz1_, hz2_, hz3_, hf0_, hf1_, hf2_, hf3_⟩ := arr_cells hzA.out))
 go_loopg [10] k (fun kq v10 w' => ∃ (x9_1 : List Int) (x10_1 : Int) (x112001_1 : Int) (x112002_1 : Int), v10 = .int .i64 x10_1 ∧ Aside0 (spec_DrawLatticeOf.l0 kq t115 x9_1 x10_1 t108 x112001_1 x112002_1 = some (r1, r2, r3, r4, r5)) ∧ Aside0 (kq ≤ k) ∧ Aside0 (Kd.R (Kd.int .i64) 74 w' w.heap.size (fun _ => True) (.slice (some ⟨ga, 0, none⟩) 4 4) x9_1) ∧ Aside0 (IsS101 w w' g111 t108 x112001_1 x112002_1) ∧ Aside0 (Below w.heap.size w w'))
 case atStart => exact ⟨(y118), (0), (t116), (t117), (by first | rfl | (simp; done) | (simp [*]; done)), H', ⟨Nat.le_refl _⟩, ⟨by (with_reducible repeat (first | apply Kd.R_alloc | apply Kd.R_drewN | apply Kd.R_drew)); exact Kd.R_mono HO120.out (fun _ hk => trivial)⟩, ⟨by repeat (first | (with_reducible first | exact HI111.out | refine IsS101.far ?_ NBA.out _ | apply IsS101.alloc | apply IsS101.drewN | apply IsS101.drew | apply IsS101.set_1 | apply IsS101.set_2) | exact HI111.out)⟩, ⟨by exact ib101⟩⟩
 case round =>
  clear H'
  obtain ⟨x9_1, x10_1, x112001_1, x112002_1, rfl, HA, HK1, HO_9, HI111, HB⟩ := hrel
  cases gk with
  | zero => exact absurd HA.out (by simp [spec_DrawLatticeOf.l0])
  | succ k1 =>
   have H := HA.out
   clear HA
   simp only [spec_DrawLatticeOf.l0] at H
   replace H := ii H
   rcases H with ⟨c11, H⟩ | ⟨c11, H⟩
   ·have c11b0 := decide_eq_true c11
    clear c11
    replace H := zi H
    obtain ⟨⟨t121, t122, t123⟩, A12, H⟩ := H
    try dsimp only at H
    obtain ⟨ji13, hji13⟩ : ∃ j_ : Int, (mx t115 2) = j_ := ⟨_, rfl⟩
    replace H : ((spec_l01Next.f t108 t122 t123 5).bind fun bt124 => ((spec_l01Power.f k1 (ji13) bt124.1).bind fun t127 => ((spec_l01Next.f t108 bt124.2.1 bt124.2.2 9).bind fun bt128 => ((spec_l01Next.f t108 bt128.2.1 bt128.2.2 2000001).bind fun bt131 => ((spec_l01Pick.f t108 bt131.2.1 bt131.2.2 (([wrap64 (t121 - 10), wrap64 (t127 * (wrap64 (bt128.1 - 4))), wrap64 (bt131.1 - 1000000), 0] : List Int))).bind fun bt137 => (if 0 ≤ x10_1 then (if x10_1 < (x9_1.length : Int) then (spec_DrawLatticeOf.l0 k1 t115 (x9_1.set (x10_1 : Int).toNat bt137.1) (wrap64 (x10_1 + 1)) t108 bt137.2.1 bt137.2.2) else (none)) else (none))))))) = some (r1, r2, r3, r4, r5) := by first | (rw [hji13] at H; exact H) | (simp only [hji13] at H ⊢; exact H)
    (try rw [hji13] at A12)
    have hji13_ : (if t115 < 2 then 2 else t115) = ji13 := hji13
    replace H := zi H
    obtain ⟨⟨t124, t125, t126⟩, A14, H⟩ := H
    try dsimp only at H
    replace H := zi H
    obtain ⟨t127, A15, H⟩ := H
    try dsimp only at H
    replace H := zi H
    obtain ⟨⟨t128, t129, t130⟩, A16, H⟩ := H
    try dsimp only at H
    replace H := zi H
    obtain ⟨⟨t131, t132, t133⟩, A17, H⟩ := H
    try dsimp only at H
    obtain ⟨y134, hy134⟩ : ∃ y_ : List Int, y_ = (([wrap64 (t121 - 10), wrap64 (t127 * (wrap64 (t128 - 4))), wrap64 (t131 - 1000000), 0] : List Int)) := ⟨_, rfl⟩
    replace H : ((spec_l01Pick.f t108 t132 t133 y134).bind fun bt137 => (if 0 ≤ x10_1 then (if x10_1 < (x9_1.length : Int) then (spec_DrawLatticeOf.l0 k1 t115 (x9_1.set (x10_1 : Int).toNat bt137.1) (wrap64 (x10_1 + 1)) t108 bt137.2.1 bt137.2.2) else (none)) else (none))) = some (r1, r2, r3, r4, r5) := by first | exact hy134 ▸ H | exact H
    have Ny134 := Aside0.mk hy134
    clear hy134
    replace H := zi H
    obtain ⟨⟨t137, t138, t139⟩, A18, H⟩ := H
    try dsimp only at H
    replace H := ii H
    rcases H with ⟨c19, H⟩ | ⟨c19, H⟩
    ·have c19b0 := decide_eq_true c19
     clear c19
     replace H := ii H
     rcases H with ⟨c20, H⟩ | ⟨c20, H⟩
     ·have c20b0 := decide_eq_true c20
      clear c20
      obtain ⟨y140, hy140⟩ : ∃ y_ : List Int, y_ = (x9_1.set (x10_1 : Int).toNat t137) := ⟨_, rfl⟩
      replace H : (spec_DrawLatticeOf.l0 k1 t115 y140 (wrap64 (x10_1 + 1)) t108 t138 t139) = some (r1, r2, r3, r4, r5) := by first | exact hy140 ▸ H | exact H
      have Ny140 := Aside0.mk hy140
      clear hy140
      have H' := Aside0.mk H
      clear H
      go_wp2_with (first | (go_at_call 47; (with_reducible refine (spec_l01Next.calls g111 t108 x112001_1 x112002_1 20 t121 t122 t123 w _ ?side1 ?side2 A12.out).mono ?_); (case side1 => exact is101); (case side2 => exact ib101); rintro e w22 ⟨rfl, hi, hb, hk⟩; replace HO_9 := Aside0.mk (Kd.R_mono (Kd.R_keep (IsS101.apart (show IsS101 w _ g111 t108 x112001_1 x112002_1 from by exact is101) (by (with_reducible repeat (first | apply Kd.R_alloc | apply Kd.R_drewN | apply Kd.R_drew)); exact HO_9.out) (by decide)) hk (fun _ h => h.2)) (fun _ h => h.1)); replace HI111 := Aside0.mk (hi); replace HB := Aside0.mk (hb); (try clear hb hk)) | (go_at_call 47; (with_reducible refine (spec_l01Next.calls g111 t108 t122 t123 5 t124 t125 t126 w _ ?side1 ?side2 A14.out).mono ?_); (case side1 => exact is101); (case side2 => exact ib101); rintro e w23 ⟨rfl, hi, hb, hk⟩; replace HO_9 := Aside0.mk (Kd.R_mono (Kd.R_keep (IsS101.apart (show IsS101 w _ g111 t108 t122 t123 from by exact is101) (by (with_reducible repeat (first | apply Kd.R_alloc | apply Kd.R_drewN | apply Kd.R_drew)); exact HO_9.out) (by decide)) hk (fun _ h => h.2)) (fun _ h => h.1)); replace HI111 := Aside0.mk (hi); replace HB := Aside0.mk (hb); (try clear hb hk)) | (go_at_call 34; (with_reducible refine (spec_l01Power.calls k1 ji13 t124 t127 _ A15.out).mono ?_); rintro e w' ⟨rfl, ⟨nd, rfl⟩⟩; (try first | exact zd | exact ze)) | (go_at_call 47; (with_reducible refine (spec_l01Next.calls g111 t108 t125 t126 9 t128 t129 t130 w _ ?side1 ?side2 A16.out).mono ?_); (case side1 => exact is101); (case side2 => exact ib101); rintro e w24 ⟨rfl, hi, hb, hk⟩; replace HO_9 := Aside0.mk (Kd.R_mono (Kd.R_keep (IsS101.apart (show IsS101 w _ g111 t108 t125 t126 from by exact is101) (by (with_reducible repeat (first | apply Kd.R_alloc | apply Kd.R_drewN | apply Kd.R_drew)); exact HO_9.out) (by decide)) hk (fun _ h => h.2)) (fun _ h => h.1)); replace HI111 := Aside0.mk (hi); replace HB := Aside0.mk (hb); (try clear hb hk)) | (go_at_call 47; (with_reducible refine (spec_l01Next.calls g111 t108 t129 t130 2000001 t131 t132 t133 w _ ?side1 ?side2 A17.out).mono ?_); (case side1 => exact is101); (case side2 => exact ib101); rintro e w25 ⟨rfl, hi, hb, hk⟩; replace HO_9 := Aside0.mk (Kd.R_mono (Kd.R_keep (IsS101.apart (show IsS101 w _ g111 t108 t129 t130 from by exact is101) (by (with_reducible repeat (first | apply Kd.R_alloc | apply Kd.R_drewN | apply Kd.R_drew)); exact HO_9.out) (by decide)) hk (fun _ h => h.2)) (fun _ h => h.1)); replace HI111 := Aside0.mk (hi); replace HB := Aside0.mk (hb); (try clear hb hk)) | ((with_reducible refine zg 38 rfl ?_); refine Kd.R_lit (Kd.int .i64) _ 2 ?hg (N := 38) ?hd (xs := ([wrap64 (t121 - 10), wrap64 (t127 * (wrap64 (t128 - 4))), wrap64 (t131 - 1000000), 0] : List Int)) (inner := [.int .i64 (wrap64 (t121 - 10)), .int .i64 (wrap64 (t127 * (wrap64 (t128 - 4)))), .int .i64 (wrap64 (t131 - 1000000)), .int .i64 0]) (ok := fun _ => True) (okp := fun _ => True) ?hr ?hp (fun _ hk => hk) trivial (Below.refl _ _) (Nat.le_refl _) (by simp) ?_; (case hd => rfl); (case hg => rfl); (case hr => first | (go_simp; done) | (go_simp; rfl)); (case hp => exact (Reps.one (show Kd.M (Kd.int .i64) _ _ _ (wrap64 (t121 - 10)) [.int .i64 (wrap64 (t121 - 10))] from rfl) (Reps.one (show Kd.M (Kd.int .i64) _ _ _ (wrap64 (t127 * (wrap64 (t128 - 4)))) [.int .i64 (wrap64 (t127 * (wrap64 (t128 - 4))))] from rfl) (Reps.one (show Kd.M (Kd.int .i64) _ _ _ (wrap64 (t131 - 1000000)) [.int .i64 (wrap64 (t131 - 1000000))] from rfl) (Reps.one (show Kd.M (Kd.int .i64) _ _ _ 0 [.int .i64 0] from rfl) (Reps.none _ _)))))); intro v135 w26 ho27 hb hg_ hnew_; clear hg_ hnew_; (first | rw [← Ny134.out] at ho27 | (simp only [Int.reduceToNat] at ho27; rw [← Ny134.out] at ho27)); have HO136 := Aside0.mk (Kd.R_lower (Kd.R_new' ho27 (Kd.R_lt (by (with_reducible repeat (first | apply Kd.R_alloc | apply Kd.R_drewN | apply Kd.R_drew)); exact HO_9.out))) (below_size (ib101))); replace HO_9 := Aside0.mk (Kd.R_elder' (by (with_reducible repeat (first | apply Kd.R_alloc | apply Kd.R_drewN | apply Kd.R_drew)); exact HO_9.out) (Kd.R_base ho27) hb); replace HB := Aside0.mk (below_step (ib101) hb); replace HI111 := Aside0.mk (IsS101.below (is101) hb); clear hb ho27; obtain ⟨Ao28, co28, eo28⟩ := Kd.R_slice HO136.out; subst eo28) | (go_at_call 46; (with_reducible refine (spec_l01Pick.calls g111 t108 t132 t133 _ _ y134 t137 t138 t139 w _ ?side1 ?side2 ?side3 ?side4 ?side5 A18.out).mono ?_); (case side1 => exact is101); (case side2 => exact ib101); (case side3 => repeat (first | exact (Kd.R_reads' HO136.out).2.2 | (with_reducible refine Kd.C_alloc ?_ _) | (with_reducible refine Kd.C_drewN ?_ _) | (with_reducible refine Kd.C_drew ?_))); (case side4 => exact (Kd.R_reads' HO136.out).2.1); (case side5 => exact far_slice (IsS101.own_ne HI111.out HO136.out (by decide))); rintro e w29 ⟨rfl, hi, hb, hk⟩; replace HO_9 := Aside0.mk (Kd.R_mono (Kd.R_keep (IsS101.apart (show IsS101 w _ g111 t108 t132 t133 from by exact is101) (by (with_reducible repeat (first | apply Kd.R_alloc | apply Kd.R_drewN | apply Kd.R_drew)); exact HO_9.out) (by decide)) hk (fun _ h => h.2)) (fun _ h => h.1)); replace HO136 := Aside0.mk (Kd.R_mono (Kd.R_keep (IsS101.apart (show IsS101 w _ g111 t108 t132 t133 from by exact is101) (by (with_reducible repeat (first | apply Kd.R_alloc | apply Kd.R_drewN | apply Kd.R_drew)); exact HO136.out) (by decide)) hk (fun _ h => h.2)) (fun _ h => h.1)); replace HI111 := Aside0.mk (hi); replace HB := Aside0.mk (hb); (try clear hb hk); have p21 : 0 ≤ (x10_1 : Int) := of_decide_eq_true (by first | (with_reducible assumption) | assumption); have q21 : (x10_1 : Int) < ((x9_1.length : Int) : Int) := of_decide_eq_true (by first | (with_reducible assumption) | assumption); obtain ⟨go21, co21, eo21, gb21, gl21, cl21, HG21⟩ := Kd.R_form HO_9.out (by omega); obtain ⟨ea_, en_, ec_⟩ := arr_form eo21; subst ea_; subst ec_; clear eo21; have LA := Aside0.mk en_; clear en_; replace q21 : (x10_1 : Int) < ((4 : Nat) : Int) := (by have := LA.out; omega); have qd21 : decide ((x10_1 : Int) < ((4 : Nat) : Int)) = true := decide_eq_true q21; have qe21 : ((x10_1 : Int) < 4) = True := eq_true q21; have GB21 := Aside0.mk gb21; have GG21 := Aside0.mk HG21; clear gb21 gl21 HG21; obtain ⟨hx21_0, hf21_0⟩ := Kd.R_celln 0 HO_9.out (x10_1 : Int) p21 q21; replace p21 := eq_true p21; replace q21 := eq_true q21; have n_ := Aside0.mk (Kd.R_mono (ok' := (fun k_ => some k_ ≠ (.slice Ao28 y134.length co28 : Value).ownBlock)) HO_9.out (fun k_ hk => hk.2)); clear HO_9; have HO_9 := n_; clear n_; obtain ⟨hy30_, hz30_⟩ := Kd.R_celln 0 HO_9.out (x10_1 : Int) (of_decide_eq_true (by first | (with_reducible assumption) | assumption)) (of_decide_eq_true (by first | (with_reducible assumption) | assumption)); have HP30 := Kd.R_putg HO_9.out (x10_1 : Int) t137) | ((with_reducible refine gate_store (t := 2) (p := 40) rfl ?_); (try (rw [drewN_self w29]; generalize hq_ : World.drewN w29 _ = w29; have n0_ := Aside0.mk (Kd.R_at hq_ HO_9.out); have n1_ := Aside0.mk (Kd.R_at hq_ HO136.out); have n2_ := Aside0.mk (IsS101.at_ hq_ HI111.out); have n3_ := Aside0.mk (below_at hq_ HB.out); clear hq_ HO_9 HO136 HI111 HB; have HO_9 := n0_; have HO136 := n1_; have HI111 := n2_; have HB := n3_; clear n0_ n1_ n2_ n3_; (try (have n_ := Aside0.mk (Kd.R_mono (ok' := (fun k_ => some k_ ≠ (.slice Ao28 y134.length co28 : Value).ownBlock)) HO_9.out (fun k_ hk => hk.2)); clear HO_9; have HO_9 := n_; clear n_)); (try (obtain ⟨hy30_, hz30_⟩ := Kd.R_celln 0 HO_9.out (x10_1 : Int) (of_decide_eq_true (by first | (with_reducible assumption) | assumption)) (of_decide_eq_true (by first | (with_reducible assumption) | assumption)))); (try (have HP30 := Kd.R_putg HO_9.out (x10_1 : Int) t137)))); refine store_event (t := 2) (p := 40) (v := ?vo_w31) (w1 := (w29.setCell ⟨ga, (x10_1 : Int).toNat, none⟩ (.int .i64 t137))) ?hg ?ho ?hn ?hr ?_; (case ho => rfl); (case hg => rfl); (case hn => rfl); (case hr => first | (go_simp; done) | (go_simp; rfl)); intro w31 hw; have hg : w29.grownBy w31 (some ga) := (by rw [hw]; exact HP30.2); have hp_ : Kd.R (Kd.int .i64) 74 w31 w.heap.size (fun k_ => some k_ ≠ (.slice Ao28 y134.length co28 : Value).ownBlock) (.slice (some ⟨ga, 0, none⟩) 4 4) y140 := (by rw [hw, Ny140.out]; exact HP30.1); clear HP30; replace HI111 := Aside0.mk (IsS101.grown (is101) hg (IsS101.own_ne HI111.out HO_9.out (by decide))); replace HO_9 := Aside0.mk (hp_); replace HO136 := Aside0.mk (Kd.R_after (v := (.slice (some ⟨ga, 0, none⟩) 4 4)) (v1 := (.slice (some ⟨ga, 0, none⟩) 4 4)) (ok := (fun _ => True)) (by (with_reducible repeat (first | apply Kd.R_alloc | apply Kd.R_drewN | apply Kd.R_drew)); exact HO136.out) hg (.inl rfl)); replace HB := Aside0.mk ((by rw [hw]; exact below_set (HB.out) GB21.out : Below w.heap.size w w31)); clear hg hw hp_))
      go_roundg k1
      case measure => have := HK1.out; omega
      case rel => exact ⟨(y140), (wrap64 (x10_1 + 1)), (t138), (t139), (by first | rfl | (simp; done) | (simp [*]; done)), H', ⟨by have := HK1.out; omega⟩, ⟨by (with_reducible repeat (first | apply Kd.R_alloc | apply Kd.R_drewN | apply Kd.R_drew)); exact Kd.R_mono HO_9.out (fun _ hk => trivial)⟩, ⟨by exact is101⟩, ⟨by exact ib101⟩⟩
     ·exact absurd H (by simp)
    ·exact absurd H (by simp)
   ·have c11b0 := decide_eq_false c11
    clear c11
    replace H := zi H
    obtain ⟨⟨t141, t142, t143⟩, A32, H⟩ := H
    try dsimp only at H
    replace H := ii H
    rcases H with ⟨c33, H⟩ | ⟨c33, H⟩
    ·obtain ⟨c33b0, c33b1⟩ := zz c33
     clear c33
     replace H := zi H
     obtain ⟨⟨t144, t145, t146⟩, A34, H⟩ := H
     try dsimp only at H
     obtain ⟨y147, hy147⟩ : ∃ y_ : List Int, y_ = (([1000001, (-1000001)] : List Int)) := ⟨_, rfl⟩
     replace H : ((spec_l01Pick.f t108 t145 t146 y147).bind fun bt150 => (if 0 ≤ t144 then (if t144 < (x9_1.length : Int) then ((some (x9_1.set (t144 : Int).toNat bt150.1 : List Int)).bind fun y153 => (if 0 < (x9_1.length : Int) then (if 1 < (x9_1.length : Int) then (if 2 < (x9_1.length : Int) then (if 3 < (x9_1.length : Int) then (some (t115, rd y153 0, rd y153 1, rd y153 2, rd y153 3)) else (none)) else (none)) else (none)) else (none))) else (none)) else (none))) = some (r1, r2, r3, r4, r5) := by first | exact hy147 ▸ H | exact H
     have Ny147 := Aside0.mk hy147
     clear hy147
     replace H := zi H
     obtain ⟨⟨t150, t151, t152⟩, A35, H⟩ := H
     try dsimp only at H
     replace H := ii H
     rcases H with ⟨c36, H⟩ | ⟨c36, H⟩
     ·have c36b0 := decide_eq_true c36
      clear c36
      replace H := ii H
      rcases H with ⟨c37, H⟩ | ⟨c37, H⟩
      ·have c37b0 := decide_eq_true c37
       clear c37
       obtain ⟨y153, hy153⟩ : ∃ y_ : List Int, y_ = (x9_1.set (t144 : Int).toNat t150) := ⟨_, rfl⟩
       replace H : (if 0 < (x9_1.length : Int) then (if 1 < (x9_1.length : Int) then (if 2 < (x9_1.length : Int) then (if 3 < (x9_1.length : Int) then (some (t115, rd y153 0, rd y153 1, rd y153 2, rd y153 3)) else (none)) else (none)) else (none)) else (none)) = some (r1, r2, r3, r4, r5) := by first | exact hy153 ▸ H | exact H
       have Ny153 := Aside0.mk hy153
       clear hy153
       replace H := ii H
       rcases H with ⟨c39, H⟩ | ⟨c39, H⟩
       ·have c39b0 := decide_eq_true c39
        have c39b1 : decide (0 < x9_1.length) = true := decide_eq_true (by omega)
        clear c39
        replace H := ii H
        rcases H with ⟨c40, H⟩ | ⟨c40, H⟩
        ·have c40b0 := decide_eq_true c40
         have c40b1 : decide (1 < x9_1.length) = true := decide_eq_true (by omega)
         clear c40
         replace H := ii H
         rcases H with ⟨c41, H⟩ | ⟨c41, H⟩
         ·have c41b0 := decide_eq_true c41
          have c41b1 : decide (2 < x9_1.length) = true := decide_eq_true (by omega)
          clear c41
          replace H := ii H
          rcases H with ⟨c42, H⟩ | ⟨c42, H⟩
          ·have c42b0 := decide_eq_true c42
           have c42b1 : decide (3 < x9_1.length) = true := decide_eq_true (by omega)
           clear c42
           simp only [Option.some.injEq, Prod.mk.injEq] at H
           obtain ⟨rfl, rfl, rfl, rfl, rfl⟩ := H
           go_wp2_with (first | (go_at_call 47; (with_reducible refine (spec_l01Next.calls g111 t108 x112001_1 x112002_1 30 t141 t142 t143 w _ ?side1 ?side2 A32.out).mono ?_); (case side1 => exact is101); (case side2 => exact ib101); rintro e w43 ⟨rfl, hi, hb, hk⟩; replace HO_9 := Aside0.mk (Kd.R_mono (Kd.R_keep (IsS101.apart (show IsS101 w _ g111 t108 x112001_1 x112002_1 from by exact is101) (by (with_reducible repeat (first | apply Kd.R_alloc | apply Kd.R_drewN | apply Kd.R_drew)); exact HO_9.out) (by decide)) hk (fun _ h => h.2)) (fun _ h => h.1)); replace HI111 := Aside0.mk (hi); replace HB := Aside0.mk (hb); (try clear hb hk)) | (go_at_call 47; (with_reducible refine (spec_l01Next.calls g111 t108 t142 t143 4 t144 t145 t146 w _ ?side1 ?side2 A34.out).mono ?_); (case side1 => exact is101); (case side2 => exact ib101); rintro e w44 ⟨rfl, hi, hb, hk⟩; replace HO_9 := Aside0.mk (Kd.R_mono (Kd.R_keep (IsS101.apart (show IsS101 w _ g111 t108 t142 t143 from by exact is101) (by (with_reducible repeat (first | apply Kd.R_alloc | apply Kd.R_drewN | apply Kd.R_drew)); exact HO_9.out) (by decide)) hk (fun _ h => h.2)) (fun _ h => h.1)); replace HI111 := Aside0.mk (hi); replace HB := Aside0.mk (hb); (try clear hb hk)) | ((with_reducible refine zg 48 rfl ?_); refine Kd.R_lit (Kd.int .i64) _ 2 ?hg (N := 48) ?hd (xs := ([1000001, (-1000001)] : List Int)) (inner := [.int .i64 1000001, .int .i64 (-1000001)]) (ok := fun _ => True) (okp := fun _ => True) ?hr ?hp (fun _ hk => hk) trivial (Below.refl _ _) (Nat.le_refl _) (by simp) ?_; (case hd => rfl); (case hg => rfl); (case hr => first | (go_simp; done) | (go_simp; rfl)); (case hp => exact (Reps.one (show Kd.M (Kd.int .i64) _ _ _ 1000001 [.int .i64 1000001] from rfl) (Reps.one (show Kd.M (Kd.int .i64) _ _ _ (-1000001) [.int .i64 (-1000001)] from rfl) (Reps.none _ _)))); intro v148 w45 ho46 hb hg_ hnew_; clear hg_ hnew_; (first | rw [← Ny147.out] at ho46 | (simp only [Int.reduceToNat] at ho46; rw [← Ny147.out] at ho46)); have HO149 := Aside0.mk (Kd.R_lower (Kd.R_new' ho46 (Kd.R_lt (by (with_reducible repeat (first | apply Kd.R_alloc | apply Kd.R_drewN | apply Kd.R_drew)); exact HO_9.out))) (below_size (ib101))); replace HO_9 := Aside0.mk (Kd.R_elder' (by (with_reducible repeat (first | apply Kd.R_alloc | apply Kd.R_drewN | apply Kd.R_drew)); exact HO_9.out) (Kd.R_base ho46) hb); replace HB := Aside0.mk (below_step (ib101) hb); replace HI111 := Aside0.mk (IsS101.below (is101) hb); clear hb ho46; obtain ⟨Ao47, co47, eo47⟩ := Kd.R_slice HO149.out; subst eo47) | (go_at_call 46; (with_reducible refine (spec_l01Pick.calls g111 t108 t145 t146 _ _ y147 t150 t151 t152 w _ ?side1 ?side2 ?side3 ?side4 ?side5 A35.out).mono ?_); (case side1 => exact is101); (case side2 => exact ib101); (case side3 => repeat (first | exact (Kd.R_reads' HO149.out).2.2 | (with_reducible refine Kd.C_alloc ?_ _) | (with_reducible refine Kd.C_drewN ?_ _) | (with_reducible refine Kd.C_drew ?_))); (case side4 => exact (Kd.R_reads' HO149.out).2.1); (case side5 => exact far_slice (IsS101.own_ne HI111.out HO149.out (by decide))); rintro e w48 ⟨rfl, hi, hb, hk⟩; replace HO_9 := Aside0.mk (Kd.R_mono (Kd.R_keep (IsS101.apart (show IsS101 w _ g111 t108 t145 t146 from by exact is101) (by (with_reducible repeat (first | apply Kd.R_alloc | apply Kd.R_drewN | apply Kd.R_drew)); exact HO_9.out) (by decide)) hk (fun _ h => h.2)) (fun _ h => h.1)); replace HO149 := Aside0.mk (Kd.R_mono (Kd.R_keep (IsS101.apart (show IsS101 w _ g111 t108 t145 t146 from by exact is101) (by (with_reducible repeat (first | apply Kd.R_alloc | apply Kd.R_drewN | apply Kd.R_drew)); exact HO149.out) (by decide)) hk (fun _ h => h.2)) (fun _ h => h.1)); replace HI111 := Aside0.mk (hi); replace HB := Aside0.mk (hb); (try clear hb hk); have p38 : 0 ≤ (t144 : Int) := of_decide_eq_true (by first | (with_reducible assumption) | assumption); have q38 : (t144 : Int) < ((x9_1.length : Int) : Int) := of_decide_eq_true (by first | (with_reducible assumption) | assumption); obtain ⟨go38, co38, eo38, gb38, gl38, cl38, HG38⟩ := Kd.R_form HO_9.out (by omega); obtain ⟨ea_, en_, ec_⟩ := arr_form eo38; subst ea_; subst ec_; clear eo38; have LA := Aside0.mk en_; clear en_; replace q38 : (t144 : Int) < ((4 : Nat) : Int) := (by have := LA.out; omega); have qd38 : decide ((t144 : Int) < ((4 : Nat) : Int)) = true := decide_eq_true q38; have qe38 : ((t144 : Int) < 4) = True := eq_true q38; have GB38 := Aside0.mk gb38; have GG38 := Aside0.mk HG38; clear gb38 gl38 HG38; obtain ⟨hx38_0, hf38_0⟩ := Kd.R_celln 0 HO_9.out (t144 : Int) p38 q38; replace p38 := eq_true p38; replace q38 := eq_true q38; have n_ := Aside0.mk (Kd.R_mono (ok' := (fun k_ => some k_ ≠ (.slice Ao47 y147.length co47 : Value).ownBlock)) HO_9.out (fun k_ hk => hk.2)); clear HO_9; have HO_9 := n_; clear n_; obtain ⟨hy49_, hz49_⟩ := Kd.R_celln 0 HO_9.out (t144 : Int) (of_decide_eq_true (by first | (with_reducible assumption) | assumption)) (of_decide_eq_true (by first | (with_reducible assumption) | assumption)); have HP49 := Kd.R_putg HO_9.out (t144 : Int) t150) | ((with_reducible refine gate_store (t := 2) (p := 50) rfl ?_); (try (rw [drewN_self w48]; generalize hq_ : World.drewN w48 _ = w48; have n0_ := Aside0.mk (Kd.R_at hq_ HO_9.out); have n1_ := Aside0.mk (Kd.R_at hq_ HO149.out); have n2_ := Aside0.mk (IsS101.at_ hq_ HI111.out); have n3_ := Aside0.mk (below_at hq_ HB.out); clear hq_ HO_9 HO149 HI111 HB; have HO_9 := n0_; have HO149 := n1_; have HI111 := n2_; have HB := n3_; clear n0_ n1_ n2_ n3_; (try (have n_ := Aside0.mk (Kd.R_mono (ok' := (fun k_ => some k_ ≠ (.slice Ao47 y147.length co47 : Value).ownBlock)) HO_9.out (fun k_ hk => hk.2)); clear HO_9; have HO_9 := n_; clear n_)); (try (obtain ⟨hy49_, hz49_⟩ := Kd.R_celln 0 HO_9.out (t144 : Int) (of_decide_eq_true (by first | (with_reducible assumption) | assumption)) (of_decide_eq_true (by first | (with_reducible assumption) | assumption)))); (try (have HP49 := Kd.R_putg HO_9.out (t144 : Int) t150)))); refine store_event (t := 2) (p := 50) (v := ?vo_w50) (w1 := (w48.setCell ⟨ga, (t144 : Int).toNat, none⟩ (.int .i64 t150))) ?hg ?ho ?hn ?hr ?_; (case ho => rfl); (case hg => rfl); (case hn => rfl); (case hr => first | (go_simp; done) | (go_simp; rfl)); intro w50 hw; have hg : w48.grownBy w50 (some ga) := (by rw [hw]; exact HP49.2); have hp_ : Kd.R (Kd.int .i64) 74 w50 w.heap.size (fun k_ => some k_ ≠ (.slice Ao47 y147.length co47 : Value).ownBlock) (.slice (some ⟨ga, 0, none⟩) 4 4) y153 := (by rw [hw, Ny153.out]; exact HP49.1); clear HP49; replace HI111 := Aside0.mk (IsS101.grown (is101) hg (IsS101.own_ne HI111.out HO_9.out (by decide))); replace HO_9 := Aside0.mk (hp_); replace HO149 := Aside0.mk (Kd.R_after (v := (.slice (some ⟨ga, 0, none⟩) 4 4)) (v1 := (.slice (some ⟨ga, 0, none⟩) 4 4)) (ok := (fun _ => True)) (by (with_reducible repeat (first | apply Kd.R_alloc | apply Kd.R_drewN | apply Kd.R_drew)); exact HO149.out) hg (.inl rfl)); replace HB := Aside0.mk ((by rw [hw]; exact below_set (HB.out) GB38.out : Below w.heap.size w w50)); clear hg hw hp_; have p154 : 0 ≤ (0 : Int) := (by omega); have q154 : 0 < (y153.length : Int) := (by have h_ : (0 : Int) < ((x9_1.length : Int) : Int) := of_decide_eq_true (by first | (with_reducible assumption) | assumption); first | (have e_ := (Kd.R_reads' HO_9.out).1; omega) | simpa only [Ny153.out, List.length_set] using h_); have ql154 : ((0 : Int) < ((x9_1.length : Int) : Int)) = True := eq_true (of_decide_eq_true (by first | (with_reducible assumption) | assumption)); (try have qn154 : (0 < x9_1.length) = True := eq_true (by have h_ : (0 : Int) < ((x9_1.length : Int) : Int) := of_decide_eq_true (by first | (with_reducible assumption) | assumption); omega)); obtain ⟨ad154, e154, hx154_0⟩ := Kd.at_int (Kd.R_reads' HO_9.out).2.2 0 p154 q154; obtain rfl : (⟨ga, 0, none⟩ : Addr) = ad154 := (by injection e154); (first | simp only [add_plain] at hx154_0 | simp only [add_at] at hx154_0 | simp only [Addr.add, Nat.zero_add] at hx154_0 | skip); have qi154 : (0 < y153.length) = True := eq_true (by omega); (try rw [show ((0 : Int)).toNat = 0 from rfl] at hx154_0); (try rw [Addr.add_zero'] at hx154_0); replace p154 := eq_true p154; replace q154 := eq_true q154; have p155 : 0 ≤ (1 : Int) := (by omega); have q155 : 1 < (y153.length : Int) := (by have h_ : (1 : Int) < ((x9_1.length : Int) : Int) := of_decide_eq_true (by first | (with_reducible assumption) | assumption); first | (have e_ := (Kd.R_reads' HO_9.out).1; omega) | simpa only [Ny153.out, List.length_set] using h_); have ql155 : ((1 : Int) < ((x9_1.length : Int) : Int)) = True := eq_true (of_decide_eq_true (by first | (with_reducible assumption) | assumption)); (try have qn155 : (1 < x9_1.length) = True := eq_true (by have h_ : (1 : Int) < ((x9_1.length : Int) : Int) := of_decide_eq_true (by first | (with_reducible assumption) | assumption); omega)); obtain ⟨ad155, e155, hx155_0⟩ := Kd.at_int (Kd.R_reads' HO_9.out).2.2 1 p155 q155; obtain rfl : (⟨ga, 0, none⟩ : Addr) = ad155 := (by injection e155); (first | simp only [add_plain] at hx155_0 | simp only [add_at] at hx155_0 | simp only [Addr.add, Nat.zero_add] at hx155_0 | skip); have qi155 : (1 < y153.length) = True := eq_true (by omega); (try rw [show ((1 : Int)).toNat = 1 from rfl] at hx155_0); replace p155 := eq_true p155; replace q155 := eq_true q155; have p156 : 0 ≤ (2 : Int) := (by omega); have q156 : 2 < (y153.length : Int) := (by have h_ : (2 : Int) < ((x9_1.length : Int) : Int) := of_decide_eq_true (by first | (with_reducible assumption) | assumption); first | (have e_ := (Kd.R_reads' HO_9.out).1; omega) | simpa only [Ny153.out, List.length_set] using h_); have ql156 : ((2 : Int) < ((x9_1.length : Int) : Int)) = True := eq_true (of_decide_eq_true (by first | (with_reducible assumption) | assumption)); (try have qn156 : (2 < x9_1.length) = True := eq_true (by have h_ : (2 : Int) < ((x9_1.length : Int) : Int) := of_decide_eq_true (by first | (with_reducible assumption) | assumption); omega)); obtain ⟨ad156, e156, hx156_0⟩ := Kd.at_int (Kd.R_reads' HO_9.out).2.2 2 p156 q156; obtain rfl : (⟨ga, 0, none⟩ : Addr) = ad156 := (by injection e156); (first | simp only [add_plain] at hx156_0 | simp only [add_at] at hx156_0 | simp only [Addr.add, Nat.zero_add] at hx156_0 | skip); have qi156 : (2 < y153.length) = True := eq_true (by omega); (try rw [show ((2 : Int)).toNat = 2 from rfl] at hx156_0); replace p156 := eq_true p156; replace q156 := eq_true q156; have p157 : 0 ≤ (3 : Int) := (by omega); have q157 : 3 < (y153.length : Int) := (by have h_ : (3 : Int) < ((x9_1.length : Int) : Int) := of_decide_eq_true (by first | (with_reducible assumption) | assumption); first | (have e_ := (Kd.R_reads' HO_9.out).1; omega) | simpa only [Ny153.out, List.length_set] using h_); have ql157 : ((3 : Int) < ((x9_1.length : Int) : Int)) = True := eq_true (of_decide_eq_true (by first | (with_reducible assumption) | assumption)); (try have qn157 : (3 < x9_1.length) = True := eq_true (by have h_ : (3 : Int) < ((x9_1.length : Int) : Int) := of_decide_eq_true (by first | (with_reducible assumption) | assumption); omega)); obtain ⟨ad157, e157, hx157_0⟩ := Kd.at_int (Kd.R_reads' HO_9.out).2.2 3 p157 q157; obtain rfl : (⟨ga, 0, none⟩ : Addr) = ad157 := (by injection e157); (first | simp only [add_plain] at hx157_0 | simp only [add_at] at hx157_0 | simp only [Addr.add, Nat.zero_add] at hx157_0 | skip); have qi157 : (3 < y153.length) = True := eq_true (by omega); (try rw [show ((3 : Int)).toNat = 3 from rfl] at hx157_0); replace p157 := eq_true p157; replace q157 := eq_true q157))
           repeat (go_quiet (fail); try go_wp2)
           refine bodyPost_ret (results_list (rs := [.tmp 2, .tmp 3, .tmp 4, .tmp 5, .tmp 6]) rfl (by simp) (.tmp (.tmp (.tmp (.tmp (.tmp .nil)))))) rfl ?_
           exact ⟨er, by exact ib101⟩
          ·exact absurd H (by simp)
         ·exact absurd H (by simp)
        ·exact absurd H (by simp)
       ·exact absurd H (by simp)
      ·exact absurd H (by simp)
     ·exact absurd H (by simp)
    ·obtain ⟨c33b0, c33b1⟩ := zy c33
     replace H := ii H
     rcases H with ⟨c51, H⟩ | ⟨c51, H⟩
     ·obtain ⟨c51b0, c51b1⟩ := zz c51
      clear c51
      replace H := ii H
      rcases H with ⟨c52, H⟩ | ⟨c52, H⟩
      ·have c52b0 := decide_eq_true c52
       have c52b1 : decide (0 < x9_1.length) = true := decide_eq_true (by omega)
       clear c52
       replace H := ii H
       rcases H with ⟨c53, H⟩ | ⟨c53, H⟩
       ·have c53b0 := decide_eq_true c53
        have c53b1 : decide (2 < x9_1.length) = true := decide_eq_true (by omega)
        clear c53
        obtain ⟨y159, hy159⟩ : ∃ y_ : List Int, y_ = (x9_1.set (2 : Int).toNat (rd x9_1 0)) := ⟨_, rfl⟩
        replace H : (if 1 < (x9_1.length : Int) then (if 3 < (x9_1.length : Int) then ((some (y159.set (3 : Int).toNat (rd y159 1) : List Int)).bind fun y161 => (some (t115, rd y161 0, rd y161 1, rd y161 2, rd y161 3))) else (none)) else (none)) = some (r1, r2, r3, r4, r5) := by first | exact hy159 ▸ H | exact H
        have Ny159 := Aside0.mk hy159
        clear hy159
        replace H := ii H
        rcases H with ⟨c55, H⟩ | ⟨c55, H⟩
        ·have c55b0 := decide_eq_true c55
         have c55b1 : decide (1 < x9_1.length) = true := decide_eq_true (by omega)
         clear c55
         replace H := ii H
         rcases H with ⟨c56, H⟩ | ⟨c56, H⟩
         ·have c56b0 := decide_eq_true c56
          have c56b1 : decide (3 < x9_1.length) = true := decide_eq_true (by omega)
          clear c56
          obtain ⟨y161, hy161⟩ : ∃ y_ : List Int, y_ = (y159.set (3 : Int).toNat (rd y159 1)) := ⟨_, rfl⟩
          replace H : (some (t115, rd y161 0, rd y161 1, rd y161 2, rd y161 3)) = some (r1, r2, r3, r4, r5) := by first | exact hy161 ▸ H | exact H
          have Ny161 := Aside0.mk hy161
          clear hy161
          simp only [Option.some.injEq, Prod.mk.injEq] at H
          obtain ⟨rfl, rfl, rfl, rfl, rfl⟩ := H
          go_wp2_with (first | (go_at_call 47; (with_reducible refine (spec_l01Next.calls g111 t108 x112001_1 x112002_1 30 t141 t142 t143 w _ ?side1 ?side2 A32.out).mono ?_); (case side1 => exact is101); (case side2 => exact ib101); rintro e w58 ⟨rfl, hi, hb, hk⟩; replace HO_9 := Aside0.mk (Kd.R_mono (Kd.R_keep (IsS101.apart (show IsS101 w _ g111 t108 x112001_1 x112002_1 from by exact is101) (by (with_reducible repeat (first | apply Kd.R_alloc | apply Kd.R_drewN | apply Kd.R_drew)); exact HO_9.out) (by decide)) hk (fun _ h => h.2)) (fun _ h => h.1)); replace HI111 := Aside0.mk (hi); replace HB := Aside0.mk (hb); (try clear hb hk); have p158 : 0 ≤ (0 : Int) := (by omega); have q158 : 0 < (x9_1.length : Int) := of_decide_eq_true (by first | (with_reducible assumption) | assumption); obtain ⟨ad158, e158, hx158_0⟩ := Kd.at_int (Kd.R_reads' HO_9.out).2.2 0 p158 q158; cases e158; have qi158 : (0 < x9_1.length) = True := eq_true (by omega); (try rw [show ((0 : Int)).toNat = 0 from rfl] at hx158_0); (try rw [Addr.add_zero'] at hx158_0); replace p158 := eq_true p158; replace q158 := eq_true q158; have p54 : 0 ≤ (2 : Int) := (by omega); have q54 : (2 : Int) < ((x9_1.length : Int) : Int) := of_decide_eq_true (by first | (with_reducible assumption) | assumption); have qi54 : (2 < x9_1.length) = True := eq_true (by omega); obtain ⟨go54, co54, eo54, gb54, gl54, cl54, HG54⟩ := Kd.R_form HO_9.out (by omega); obtain ⟨ea_, en_, ec_⟩ := arr_form eo54; subst ea_; subst ec_; clear eo54; have LA := Aside0.mk en_; clear en_; have GB54 := Aside0.mk gb54; have GG54 := Aside0.mk HG54; clear gb54 gl54 HG54; (first | simp only [add_plain] at hx158_0 | skip); obtain ⟨hx54_0, hf54_0⟩ := Kd.R_celln 0 HO_9.out (2 : Int) (by omega) (by omega); (try rw [show ((2 : Int)).toNat = 2 from rfl] at hx54_0); (try simp only [Nat.reduceMul, Nat.zero_mul, Nat.zero_add, Nat.reduceAdd] at hx54_0); (try rw [show ((2 : Int)).toNat = 2 from rfl] at hf54_0); (try simp only [Nat.reduceMul, Nat.zero_mul, Nat.zero_add, Nat.reduceAdd] at hf54_0); replace p54 := eq_true p54; replace q54 := eq_true q54; obtain ⟨hy60_, hz60_⟩ := Kd.R_celln 0 HO_9.out (2 : Int) (by omega) (by omega); (try simp only [Int.reduceToNat, Int.toNat_zero, Int.toNat_ofNat, Nat.reduceMul, Nat.zero_mul, Nat.zero_add] at hy60_ hz60_); (try rw [show ((2 : Int)).toNat = 2 from rfl] at hy60_); (try rw [show ((2 : Int)).toNat = 2 from rfl] at hz60_); have HP60 := Kd.R_putg HO_9.out (2 : Int) (rd x9_1 0)) | ((with_reducible refine gate_store (t := 2) (p := 55) rfl ?_); (try (rw [drewN_self w58]; generalize hq_ : World.drewN w58 _ = w58; have n0_ := Aside0.mk (Kd.R_at hq_ HO_9.out); have n1_ := Aside0.mk (IsS101.at_ hq_ HI111.out); have n2_ := Aside0.mk (below_at hq_ HB.out); clear hq_ HO_9 HI111 HB; have HO_9 := n0_; have HI111 := n1_; have HB := n2_; clear n0_ n1_ n2_; (try (obtain ⟨hy60_, hz60_⟩ := Kd.R_celln 0 HO_9.out (2 : Int) (by omega) (by omega))); (try (try simp only [Int.reduceToNat, Int.toNat_zero, Int.toNat_ofNat, Nat.reduceMul, Nat.zero_mul, Nat.zero_add] at hy60_ hz60_)); (try (try rw [show ((2 : Int)).toNat = 2 from rfl] at hy60_)); (try (try rw [show ((2 : Int)).toNat = 2 from rfl] at hz60_)); (try (have HP60 := Kd.R_putg HO_9.out (2 : Int) (rd x9_1 0))))); refine store_event (t := 2) (p := 55) (v := ?vo_w61) (w1 := (w58.setCell ⟨ga, (2 : Int).toNat, none⟩ (.int .i64 (rd x9_1 0)))) ?hg ?ho ?hn ?hr ?_; (case ho => rfl); (case hg => rfl); (case hn => rfl); (case hr => first | (go_simp; done) | (go_simp; rfl)); intro w61 hw; have hg : w58.grownBy w61 (some ga) := (by rw [hw]; exact HP60.2); have hp_ : Kd.R (Kd.int .i64) 74 w61 w.heap.size (fun _ => True) (.slice (some ⟨ga, 0, none⟩) 4 4) y159 := (by rw [hw, Ny159.out]; exact HP60.1); clear HP60; replace HI111 := Aside0.mk (IsS101.grown (is101) hg (IsS101.own_ne HI111.out HO_9.out (by decide))); replace HO_9 := Aside0.mk (hp_); replace HB := Aside0.mk ((by rw [hw]; exact below_set (HB.out) GB54.out : Below w.heap.size w w61)); clear hg hw hp_; have p160 : 0 ≤ (1 : Int) := (by omega); have q160 : 1 < (y159.length : Int) := (by have h_ : (1 : Int) < ((x9_1.length : Int) : Int) := of_decide_eq_true (by first | (with_reducible assumption) | assumption); first | (have e_ := (Kd.R_reads' HO_9.out).1; omega) | simpa only [Ny159.out, List.length_set] using h_); have ql160 : ((1 : Int) < ((x9_1.length : Int) : Int)) = True := eq_true (of_decide_eq_true (by first | (with_reducible assumption) | assumption)); (try have qn160 : (1 < x9_1.length) = True := eq_true (by have h_ : (1 : Int) < ((x9_1.length : Int) : Int) := of_decide_eq_true (by first | (with_reducible assumption) | assumption); omega)); obtain ⟨ad160, e160, hx160_0⟩ := Kd.at_int (Kd.R_reads' HO_9.out).2.2 1 p160 q160; obtain rfl : (⟨ga, 0, none⟩ : Addr) = ad160 := (by injection e160); (first | simp only [add_plain] at hx160_0 | simp only [add_at] at hx160_0 | simp only [Addr.add, Nat.zero_add] at hx160_0 | skip); have qi160 : (1 < y159.length) = True := eq_true (by omega); (try rw [show ((1 : Int)).toNat = 1 from rfl] at hx160_0); replace p160 := eq_true p160; replace q160 := eq_true q160; have p57 : 0 ≤ (3 : Int) := (by omega); have q57 : (3 : Int) < ((x9_1.length : Int) : Int) := of_decide_eq_true (by first | (with_reducible assumption) | assumption); have qi57 : (3 < x9_1.length) = True := eq_true (by omega); obtain ⟨hx57_0, hf57_0⟩ := Kd.R_celln 0 HO_9.out (3 : Int) (by omega) (by omega); (try rw [show ((3 : Int)).toNat = 3 from rfl] at hx57_0); (try simp only [Nat.reduceMul, Nat.zero_mul, Nat.zero_add, Nat.reduceAdd] at hx57_0); (try rw [show ((3 : Int)).toNat = 3 from rfl] at hf57_0); (try simp only [Nat.reduceMul, Nat.zero_mul, Nat.zero_add, Nat.reduceAdd] at hf57_0); replace p57 := eq_true p57; replace q57 := eq_true q57; obtain ⟨hy62_, hz62_⟩ := Kd.R_celln 0 HO_9.out (3 : Int) (by omega) (by omega); (try simp only [Int.reduceToNat, Int.toNat_zero, Int.toNat_ofNat, Nat.reduceMul, Nat.zero_mul, Nat.zero_add] at hy62_ hz62_); (try rw [show ((3 : Int)).toNat = 3 from rfl] at hy62_); (try rw [show ((3 : Int)).toNat = 3 from rfl] at hz62_); have HP62 := Kd.R_putg HO_9.out (3 : Int) (rd y159 1)) | ((with_reducible refine gate_store (t := 2) (p := 58) rfl ?_); (try (rw [drewN_self w61]; generalize hq_ : World.drewN w61 _ = w61; have n0_ := Aside0.mk (Kd.R_at hq_ HO_9.out); have n1_ := Aside0.mk (IsS101.at_ hq_ HI111.out); have n2_ := Aside0.mk (below_at hq_ HB.out); clear hq_ HO_9 HI111 HB; have HO_9 := n0_; have HI111 := n1_; have HB := n2_; clear n0_ n1_ n2_; (try (obtain ⟨hy62_, hz62_⟩ := Kd.R_celln 0 HO_9.out (3 : Int) (by omega) (by omega))); (try (try simp only [Int.reduceToNat, Int.toNat_zero, Int.toNat_ofNat, Nat.reduceMul, Nat.zero_mul, Nat.zero_add] at hy62_ hz62_)); (try (try rw [show ((3 : Int)).toNat = 3 from rfl] at hy62_)); (try (try rw [show ((3 : Int)).toNat = 3 from rfl] at hz62_)); (try (have HP62 := Kd.R_putg HO_9.out (3 : Int) (rd y159 1))))); refine store_event (t := 2) (p := 58) (v := ?vo_w63) (w1 := (w61.setCell ⟨ga, (3 : Int).toNat, none⟩ (.int .i64 (rd y159 1)))) ?hg ?ho ?hn ?hr ?_; (case ho => rfl); (case hg => rfl); (case hn => rfl); (case hr => first | (go_simp; done) | (go_simp; rfl)); intro w63 hw; have hg : w61.grownBy w63 (some ga) := (by rw [hw]; exact HP62.2); have hp_ : Kd.R (Kd.int .i64) 74 w63 w.heap.size (fun _ => True) (.slice (some ⟨ga, 0, none⟩) 4 4) y161 := (by rw [hw, Ny161.out]; exact HP62.1); clear HP62; replace HI111 := Aside0.mk (IsS101.grown (is101) hg (IsS101.own_ne HI111.out HO_9.out (by decide))); replace HO_9 := Aside0.mk (hp_); replace HB := Aside0.mk ((by rw [hw]; exact below_set (HB.out) GB54.out : Below w.heap.size w w63)); clear hg hw hp_; have p162 : 0 ≤ (0 : Int) := (by omega); have q162 : 0 < (y161.length : Int) := (by have h_ : (0 : Int) < ((x9_1.length : Int) : Int) := of_decide_eq_true (by first | (with_reducible assumption) | assumption); first | (have e_ := (Kd.R_reads' HO_9.out).1; omega) | simpa only [Ny159.out, Ny161.out, List.length_set] using h_); have ql162 : ((0 : Int) < ((x9_1.length : Int) : Int)) = True := eq_true (of_decide_eq_true (by first | (with_reducible assumption) | assumption)); (try have qn162 : (0 < x9_1.length) = True := eq_true (by have h_ : (0 : Int) < ((x9_1.length : Int) : Int) := of_decide_eq_true (by first | (with_reducible assumption) | assumption); omega)); obtain ⟨ad162, e162, hx162_0⟩ := Kd.at_int (Kd.R_reads' HO_9.out).2.2 0 p162 q162; obtain rfl : (⟨ga, 0, none⟩ : Addr) = ad162 := (by injection e162); (first | simp only [add_plain] at hx162_0 | simp only [add_at] at hx162_0 | simp only [Addr.add, Nat.zero_add] at hx162_0 | skip); have qi162 : (0 < y161.length) = True := eq_true (by omega); (try rw [show ((0 : Int)).toNat = 0 from rfl] at hx162_0); (try rw [Addr.add_zero'] at hx162_0); replace p162 := eq_true p162; replace q162 := eq_true q162; have p163 : 0 ≤ (1 : Int) := (by omega); have q163 : 1 < (y161.length : Int) := (by have h_ : (1 : Int) < ((x9_1.length : Int) : Int) := of_decide_eq_true (by first | (with_reducible assumption) | assumption); first | (have e_ := (Kd.R_reads' HO_9.out).1; omega) | simpa only [Ny159.out, Ny161.out, List.length_set] using h_); have ql163 : ((1 : Int) < ((x9_1.length : Int) : Int)) = True := eq_true (of_decide_eq_true (by first | (with_reducible assumption) | assumption)); (try have qn163 : (1 < x9_1.length) = True := eq_true (by have h_ : (1 : Int) < ((x9_1.length : Int) : Int) := of_decide_eq_true (by first | (with_reducible assumption) | assumption); omega)); obtain ⟨ad163, e163, hx163_0⟩ := Kd.at_int (Kd.R_reads' HO_9.out).2.2 1 p163 q163; obtain rfl : (⟨ga, 0, none⟩ : Addr) = ad163 := (by injection e163); (first | simp only [add_plain] at hx163_0 | simp only [add_at] at hx163_0 | simp only [Addr.add, Nat.zero_add] at hx163_0 | skip); have qi163 : (1 < y161.length) = True := eq_true (by omega); (try rw [show ((1 : Int)).toNat = 1 from rfl] at hx163_0); replace p163 := eq_true p163; replace q163 := eq_true q163; have p164 : 0 ≤ (2 : Int) := (by omega); have q164 : 2 < (y161.length : Int) := (by have h_ : (2 : Int) < ((x9_1.length : Int) : Int) := of_decide_eq_true (by first | (with_reducible assumption) | assumption); first | (have e_ := (Kd.R_reads' HO_9.out).1; omega) | simpa only [Ny159.out, Ny161.out, List.length_set] using h_); have ql164 : ((2 : Int) < ((x9_1.length : Int) : Int)) = True := eq_true (of_decide_eq_true (by first | (with_reducible assumption) | assumption)); (try have qn164 : (2 < x9_1.length) = True := eq_true (by have h_ : (2 : Int) < ((x9_1.length : Int) : Int) := of_decide_eq_true (by first | (with_reducible assumption) | assumption); omega)); obtain ⟨ad164, e164, hx164_0⟩ := Kd.at_int (Kd.R_reads' HO_9.out).2.2 2 p164 q164; obtain rfl : (⟨ga, 0, none⟩ : Addr) = ad164 := (by injection e164); (first | simp only [add_plain] at hx164_0 | simp only [add_at] at hx164_0 | simp only [Addr.add, Nat.zero_add] at hx164_0 | skip); have qi164 : (2 < y161.length) = True := eq_true (by omega); (try rw [show ((2 : Int)).toNat = 2 from rfl] at hx164_0); replace p164 := eq_true p164; replace q164 := eq_true q164; have p165 : 0 ≤ (3 : Int) := (by omega); have q165 : 3 < (y161.length : Int) := (by have h_ : (3 : Int) < ((x9_1.length : Int) : Int) := of_decide_eq_true (by first | (with_reducible assumption) | assumption); first | (have e_ := (Kd.R_reads' HO_9.out).1; omega) | simpa only [Ny159.out, Ny161.out, List.length_set] using h_); have ql165 : ((3 : Int) < ((x9_1.length : Int) : Int)) = True := eq_true (of_decide_eq_true (by first | (with_reducible assumption) | assumption)); (try have qn165 : (3 < x9_1.length) = True := eq_true (by have h_ : (3 : Int) < ((x9_1.length : Int) : Int) := of_decide_eq_true (by first | (with_reducible assumption) | assumption); omega)); obtain ⟨ad165, e165, hx165_0⟩ := Kd.at_int (Kd.R_reads' HO_9.out).2.2 3 p165 q165; obtain rfl : (⟨ga, 0, none⟩ : Addr) = ad165 := (by injection e165); (first | simp only [add_plain] at hx165_0 | simp only [add_at] at hx165_0 | simp only [Addr.add, Nat.zero_add] at hx165_0 | skip); have qi165 : (3 < y161.length) = True := eq_true (by omega); (try rw [show ((3 : Int)).toNat = 3 from rfl] at hx165_0); replace p165 := eq_true p165; replace q165 := eq_true q165))
          repeat (go_quiet (fail); try go_wp2)
          refine bodyPost_ret (results_list (rs := [.tmp 2, .tmp 3, .tmp 4, .tmp 5, .tmp 6]) rfl (by simp) (.tmp (.tmp (.tmp (.tmp (.tmp .nil)))))) rfl ?_
          exact ⟨er, by exact ib101⟩
         ·exact absurd H (by simp)
        ·exact absurd H (by simp)
       ·exact absurd H (by simp)
      ·exact absurd H (by simp)
     ·obtain ⟨c51b0, c51b1⟩ := zy c51
      replace H := ii H
      rcases H with ⟨c64, H⟩ | ⟨c64, H⟩
      ·have c64b0 := decide_eq_true c64
       have c64b1 : decide (0 < x9_1.length) = true := decide_eq_true (by omega)
       clear c64
       replace H := ii H
       rcases H with ⟨c65, H⟩ | ⟨c65, H⟩
       ·have c65b0 := decide_eq_true c65
        have c65b1 : decide (1 < x9_1.length) = true := decide_eq_true (by omega)
        clear c65
        replace H := ii H
        rcases H with ⟨c66, H⟩ | ⟨c66, H⟩
        ·have c66b0 := decide_eq_true c66
         have c66b1 : decide (2 < x9_1.length) = true := decide_eq_true (by omega)
         clear c66
         replace H := ii H
         rcases H with ⟨c67, H⟩ | ⟨c67, H⟩
         ·have c67b0 := decide_eq_true c67
          have c67b1 : decide (3 < x9_1.length) = true := decide_eq_true (by omega)
          clear c67
          simp only [Option.some.injEq, Prod.mk.injEq] at H
          obtain ⟨rfl, rfl, rfl, rfl, rfl⟩ := H
          go_wp2_with (first | (go_at_call 47; (with_reducible refine (spec_l01Next.calls g111 t108 x112001_1 x112002_1 30 t141 t142 t143 w _ ?side1 ?side2 A32.out).mono ?_); (case side1 => exact is101); (case side2 => exact ib101); rintro e w68 ⟨rfl, hi, hb, hk⟩; replace HO_9 := Aside0.mk (Kd.R_mono (Kd.R_keep (IsS101.apart (show IsS101 w _ g111 t108 x112001_1 x112002_1 from by exact is101) (by (with_reducible repeat (first | apply Kd.R_alloc | apply Kd.R_drewN | apply Kd.R_drew)); exact HO_9.out) (by decide)) hk (fun _ h => h.2)) (fun _ h => h.1)); replace HI111 := Aside0.mk (hi); replace HB := Aside0.mk (hb); (try clear hb hk); have p166 : 0 ≤ (0 : Int) := (by omega); have q166 : 0 < (x9_1.length : Int) := of_decide_eq_true (by first | (with_reducible assumption) | assumption); obtain ⟨ad166, e166, hx166_0⟩ := Kd.at_int (Kd.R_reads' HO_9.out).2.2 0 p166 q166; cases e166; have qi166 : (0 < x9_1.length) = True := eq_true (by omega); (try rw [show ((0 : Int)).toNat = 0 from rfl] at hx166_0); (try rw [Addr.add_zero'] at hx166_0); replace p166 := eq_true p166; replace q166 := eq_true q166; have p167 : 0 ≤ (1 : Int) := (by omega); have q167 : 1 < (x9_1.length : Int) := of_decide_eq_true (by first | (with_reducible assumption) | assumption); obtain ⟨ad167, e167, hx167_0⟩ := Kd.at_int (Kd.R_reads' HO_9.out).2.2 1 p167 q167; obtain rfl : (⟨ga, 0, none⟩ : Addr) = ad167 := (by injection e167); (try simp only [show (1 : Int).toNat = 1 from rfl, Nat.reduceMul, Nat.reduceEqDiff, Go.Addr.add, ↓reduceIte] at hx167_0); have qi167 : (1 < x9_1.length) = True := eq_true (by omega); (try rw [show ((1 : Int)).toNat = 1 from rfl] at hx167_0); replace p167 := eq_true p167; replace q167 := eq_true q167; have p168 : 0 ≤ (2 : Int) := (by omega); have q168 : 2 < (x9_1.length : Int) := of_decide_eq_true (by first | (with_reducible assumption) | assumption); obtain ⟨ad168, e168, hx168_0⟩ := Kd.at_int (Kd.R_reads' HO_9.out).2.2 2 p168 q168; obtain rfl : (⟨ga, 0, none⟩ : Addr) = ad168 := (by injection e168); (try simp only [show (2 : Int).toNat = 2 from rfl, Nat.reduceMul, Nat.reduceEqDiff, Go.Addr.add, ↓reduceIte] at hx168_0); have qi168 : (2 < x9_1.length) = True := eq_true (by omega); (try rw [show ((2 : Int)).toNat = 2 from rfl] at hx168_0); replace p168 := eq_true p168; replace q168 := eq_true q168; have p169 : 0 ≤ (3 : Int) := (by omega); have q169 : 3 < (x9_1.length : Int) := of_decide_eq_true (by first | (with_reducible assumption) | assumption); obtain ⟨ad169, e169, hx169_0⟩ := Kd.at_int (Kd.R_reads' HO_9.out).2.2 3 p169 q169; obtain rfl : (⟨ga, 0, none⟩ : Addr) = ad169 := (by injection e169); (try simp only [show (3 : Int).toNat = 3 from rfl, Nat.reduceMul, Nat.reduceEqDiff, Go.Addr.add, ↓reduceIte] at hx169_0); have qi169 : (3 < x9_1.length) = True := eq_true (by omega); (try rw [show ((3 : Int)).toNat = 3 from rfl] at hx169_0); replace p169 := eq_true p169; replace q169 := eq_true q169))
          repeat (go_quiet (fail); try go_wp2)
          refine bodyPost_ret (results_list (rs := [.tmp 2, .tmp 3, .tmp 4, .tmp 5, .tmp 6]) rfl (by simp) (.tmp (.tmp (.tmp (.tmp (.tmp .nil)))))) rfl ?_
          exact ⟨er, by exact ib101⟩
         ·exact absurd H (by simp)
        ·exact absurd H (by simp)
       ·exact absurd H (by simp)
      ·exact absurd H (by simp)

end Go.Proofs.Ytkfodnlogflcpaa.PFnLattices
