-- Printed by the kit's print and repaired by a program of this session.
import Derived.Test.YtkfodnlogflcpaaPFnLatticesx0
import Derived.Test.YtkfodnlogflcpaaPFnLatticesx4
import Derived.Test.YtkfodnlogflcpaaPFnLatticesx5
namespace Go.Proofs.Ytkfodnlogflcpaa.PFnLattices
open Go.RowKit Go.Proofs.YtkfodnlogflcpaaW.PrintWords Go.Proofs.YtkfodnlogflcpaaW.PrintLast Go.Proofs.YtkfodnlogflcpaaW.PrintMore
attribute [local go_sem] max2_int min2_int max_two min_two max_three min_three max_four min_four
set_option linter.unusedVariables false
set_option linter.unusedSimpArgs false

/-! ### impl_valuation: function 50 -/
def impl_valuation.l0 : Nat → Int → Int → Int → Option (Int)
 | 0, _, _, _ => none
 | k + 1, x0, x1, x5 => if x0 = 0 then (none) else (if (Int.tmod x1 x0) = 0 then (impl_valuation.l0 k x0 (wrap64 (Int.tdiv x1 x0)) (wrap64 (x5 + 1))) else (some x5))
def impl_valuation.f (k : Nat) (a0 : Int) (a1 : Int) : Option (Int) := if a1 = 0 then (some 1000) else (impl_valuation.l0 k a0 a1 0)
set_option maxHeartbeats 8000000 in
set_option maxRecDepth 100000 in
theorem impl_valuation.calls (k : Nat) (a0 : Int) (a1 : Int) (r : Int) (w : World) (h : impl_valuation.f k a0 a1 = some r) :
  Calls Try.prog 50 #[.int .i64 a0, .int .i64 a1] w fun e w' => e = .returned (.int .i64 r) ∧ Drawn0 w w' := by
 unfold impl_valuation.f at h
 have H := h
 clear h
 replace H := ii H
 rcases H with ⟨c3, H⟩ | ⟨c3, H⟩
 ·obtain ⟨c3b0, c3b1⟩ := zz c3
  clear c3
  obtain rfl := Option.some.inj H
  go_enter Try.func50, Try.ntmps50
  go_wp2
  go_ret
  exact zx
 ·obtain ⟨c3b0, c3b1⟩ := zy c3
  have H' := Aside0.mk H
  clear H
  go_enter Try.func50, Try.ntmps50
  go_wp2
  go_loopg [1, 5] k (fun kq v1 v5 w' => ∃ (x1_1 : Int) (x5_1 : Int), v1 = .int .i64 x1_1 ∧ v5 = .int .i64 x5_1 ∧ Aside0 (impl_valuation.l0 kq a0 x1_1 x5_1 = some r) ∧ Aside0 (kq ≤ k) ∧ Drawn0 w w')
  case atStart => exact ⟨(a1), (0), (by first | rfl | (simp; done) | (simp [*]; done)), (by first | rfl | (simp; done) | (simp [*]; done)), H', ⟨Nat.le_refl _⟩, by repeat (first | exact Drawn0.refl _ | apply Drawn0.step)⟩
  case round =>
   clear H'
   obtain ⟨x1_1, x5_1, rfl, rfl, HA, HK1, ⟨m1, rfl⟩⟩ := hrel
   cases gk with
   | zero => exact absurd HA.out (by simp [impl_valuation.l0])
   | succ k1 =>
    have H := HA.out
    clear HA
    simp only [impl_valuation.l0] at H
    replace H := ii H
    rcases H with ⟨c4, H⟩ | ⟨c4, H⟩
    ·exact absurd H (by simp)
    ·obtain ⟨c4b0, c4b1⟩ := zy c4
     replace H := ii H
     rcases H with ⟨c5, H⟩ | ⟨c5, H⟩
     ·obtain ⟨c5b0, c5b1⟩ := zz c5
      clear c5
      have H' := Aside0.mk H
      clear H
      go_wp2
      go_roundg k1
      case measure => have := HK1.out; omega
      case rel => exact ⟨(wrap64 (Int.tdiv x1_1 a0)), (wrap64 (x5_1 + 1)), (by first | rfl | (simp; done) | (simp [*]; done)), (by first | rfl | (simp; done) | (simp [*]; done)), H', ⟨by have := HK1.out; omega⟩, by repeat (first | exact Drawn0.refl _ | apply Drawn0.step)⟩
     ·obtain ⟨c5b0, c5b1⟩ := zy c5
      obtain rfl := Option.some.inj H
      go_wp2
      go_ret
      exact zx

/-! ### impl_form: function 51 -/
def impl_form.f (a0 : Int) (a1 : Int) (a2 : Int) : Option (Int × Int × Int × Int) := if a0 > 12 then (some (0, 0, 0, 3)) else (if a2 > 12 then (some (0, 0, 0, 3)) else (some (a0, a1, a2, 0)))
set_option maxHeartbeats 8000000 in
set_option maxRecDepth 100000 in
theorem impl_form.calls (a0 : Int) (a1 : Int) (a2 : Int) (r1 : Int) (r2 : Int) (r3 : Int) (r4 : Int) (w : World) (h : impl_form.f a0 a1 a2 = some (r1, r2, r3, r4)) :
  Calls Try.prog 51 #[.int .i64 a0, .int .i64 a1, .int .i64 a2] w fun e w' => e = .returned (.tuple #[.agg #[.int .i64 r1, .int .i64 r2, .int .i64 r3], .int .i64 r4]) ∧ Below w.heap.size w w' := by
 have hu27 := Try.underlying27
 have HB := Aside0.mk (Below.refl w.heap.size w)
 unfold impl_form.f at h
 have H := h
 clear h
 replace H := ii H
 rcases H with ⟨c4, H⟩ | ⟨c4, H⟩
 ·have c4b0 := decide_eq_true c4
  clear c4
  simp only [Option.some.injEq, Prod.mk.injEq] at H
  obtain ⟨rfl, rfl, rfl, rfl⟩ := H
  go_enter Try.func51, Try.ntmps51
  go_wp2_with (first | ((with_reducible refine zg 6 rfl ?_); refine z3 6 27 0 0 0 ?_; intro gb179 hg w5 BK179 hb; have GW179 := sg hg; replace HB := bs hb; clear hb hg; obtain ⟨hcz6_0, hcz6_1, hcz6_2, hfz6_0, hfz6_1, hfz6_2⟩ := cq3 BK179))
  refine bodyPost_ret (results_ct rfl _ _ gb179 27 #[.int .i64 0, .int .i64 0, .int .i64 0] (0, 0) _ rfl (bp) Try.underlying27 rfl (by kernel_rfl)) rfl ?_
  exact ⟨er, bl⟩
 ·have c4b0 := decide_eq_false c4
  clear c4
  replace H := ii H
  rcases H with ⟨c7, H⟩ | ⟨c7, H⟩
  ·have c7b0 := decide_eq_true c7
   clear c7
   simp only [Option.some.injEq, Prod.mk.injEq] at H
   obtain ⟨rfl, rfl, rfl, rfl⟩ := H
   go_enter Try.func51, Try.ntmps51
   go_wp2_with (first | ((with_reducible refine zg 6 rfl ?_); refine z3 6 27 0 0 0 ?_; intro gb179 hg w8 BK179 hb; have GW179 := sg hg; replace HB := bs hb; clear hb hg; obtain ⟨hcz9_0, hcz9_1, hcz9_2, hfz9_0, hfz9_1, hfz9_2⟩ := cq3 BK179))
   refine bodyPost_ret (results_ct rfl _ _ gb179 27 #[.int .i64 0, .int .i64 0, .int .i64 0] (0, 0) _ rfl (bp) Try.underlying27 rfl (by kernel_rfl)) rfl ?_
   exact ⟨er, bl⟩
  ·have c7b0 := decide_eq_false c7
   clear c7
   simp only [Option.some.injEq, Prod.mk.injEq] at H
   obtain ⟨rfl, rfl, rfl, rfl⟩ := H
   go_enter Try.func51, Try.ntmps51
   go_wp2_with (first | ((with_reducible refine zg 6 rfl ?_); refine z3 6 27 0 0 0 ?_; intro gb179 hg w10 BK179 hb; have GW179 := sg hg; replace HB := bs hb; clear hb hg; obtain ⟨hcz11_0, hcz11_1, hcz11_2, hfz11_0, hfz11_1, hfz11_2⟩ := cq3 BK179))
   refine bodyPost_ret (results_ct rfl _ _ gb179 27 #[.int .i64 a0, .int .i64 a1, .int .i64 a2] (0, 0) _ rfl (bp) Try.underlying27 rfl (by kernel_rfl)) rfl ?_
   exact ⟨er, bl⟩

/-! ### impl_inverse: function 52 -/
def impl_inverse.l0 : Nat → Int → Int → Int → Int → Int → Option (Int)
 | 0, _, _, _, _, _ => none
 | k + 1, x1, x5, x6, x7, x8 => if x6 = 0 then ((impl_mod.f x7 x1).bind fun t181 => (some t181)) else (impl_inverse.l0 k x1 x6 (wrap64 (x5 - (wrap64 ((wrap64 (Int.tdiv x5 x6)) * x6)))) x8 (wrap64 (x7 - (wrap64 ((wrap64 (Int.tdiv x5 x6)) * x8)))))
def impl_inverse.f (k : Nat) (a0 : Int) (a1 : Int) : Option (Int) := (impl_mod.f a0 a1).bind fun t180 => (impl_inverse.l0 k a1 t180 a1 1 0)
set_option maxHeartbeats 8000000 in
set_option maxRecDepth 100000 in
theorem impl_inverse.calls (k : Nat) (a0 : Int) (a1 : Int) (r : Int) (w : World) (h : impl_inverse.f k a0 a1 = some r) :
  Calls Try.prog 52 #[.int .i64 a0, .int .i64 a1] w fun e w' => e = .returned (.int .i64 r) ∧ Drawn0 w w' := by
 unfold impl_inverse.f at h
 have H := h
 clear h
 replace H := zi H
 obtain ⟨t180, A3, H⟩ := H
 try dsimp only at H
 have H' := Aside0.mk H
 clear H
 go_enter Try.func52, Try.ntmps52
 go_wp2_with (first | ((with_reducible refine zf 38 rfl ?_); refine g1 (some 12) Try.func38 #[.int .i64 a0, .int .i64 a1] ?_; (with_reducible refine (impl_mod.calls a0 a1 t180 _ A3.out).mono ?_); rintro e w' ⟨rfl, ⟨nd, rfl⟩⟩; refine ⟨_, rfl, ?_⟩))
 go_loopg [5, 6, 7, 8] k (fun kq v5 v6 v7 v8 w' => ∃ (x5_1 : Int) (x6_1 : Int) (x7_1 : Int) (x8_1 : Int), v5 = .int .i64 x5_1 ∧ v6 = .int .i64 x6_1 ∧ v7 = .int .i64 x7_1 ∧ v8 = .int .i64 x8_1 ∧ Aside0 (impl_inverse.l0 kq a1 x5_1 x6_1 x7_1 x8_1 = some r) ∧ Aside0 (kq ≤ k) ∧ Drawn0 w w')
 case atStart => exact ⟨(t180), (a1), (1), (0), (by first | rfl | (simp; done) | (simp [*]; done)), (by first | rfl | (simp; done) | (simp [*]; done)), (by first | rfl | (simp; done) | (simp [*]; done)), (by first | rfl | (simp; done) | (simp [*]; done)), H', ⟨Nat.le_refl _⟩, by repeat (first | exact Drawn0.refl _ | apply Drawn0.step)⟩
 case round =>
  clear H'
  obtain ⟨x5_1, x6_1, x7_1, x8_1, rfl, rfl, rfl, rfl, HA, HK1, ⟨m1, rfl⟩⟩ := hrel
  cases gk with
  | zero => exact absurd HA.out (by simp [impl_inverse.l0])
  | succ k1 =>
   have H := HA.out
   clear HA
   simp only [impl_inverse.l0] at H
   replace H := ii H
   rcases H with ⟨c4, H⟩ | ⟨c4, H⟩
   ·obtain ⟨c4b0, c4b1⟩ := zz c4
    clear c4
    replace H := zi H
    obtain ⟨t181, A5, H⟩ := H
    try dsimp only at H
    obtain rfl := Option.some.inj H
    go_wp2_with (first | ((with_reducible refine zf 38 rfl ?_); refine g1 (some 33) Try.func38 #[.int .i64 x7_1, .int .i64 a1] ?_; (with_reducible refine (impl_mod.calls x7_1 a1 t181 _ A5.out).mono ?_); rintro e w' ⟨rfl, ⟨nd, rfl⟩⟩; refine ⟨_, rfl, ?_⟩))
    go_ret
    exact zx
   ·obtain ⟨c4b0, c4b1⟩ := zy c4
    have H' := Aside0.mk H
    clear H
    go_wp2
    go_roundg k1
    case measure => have := HK1.out; omega
    case rel => exact ⟨(x6_1), (wrap64 (x5_1 - (wrap64 ((wrap64 (Int.tdiv x5_1 x6_1)) * x6_1)))), (x8_1), (wrap64 (x7_1 - (wrap64 ((wrap64 (Int.tdiv x5_1 x6_1)) * x8_1)))), (by first | rfl | (simp; done) | (simp [*]; done)), (by first | rfl | (simp; done) | (simp [*]; done)), (by first | rfl | (simp; done) | (simp [*]; done)), (by first | rfl | (simp; done) | (simp [*]; done)), H', ⟨by have := HK1.out; omega⟩, by repeat (first | exact Drawn0.refl _ | apply Drawn0.step)⟩

/-! ### impl_unit: function 53 -/
def impl_unit.f (k : Nat) (a0 : Int) (a1 : Int) : Option (Int) := (impl_valuation.f k a0 a1).bind fun t182 => ((impl_power.f k a0 t182).bind fun t183 => (if t183 = 0 then (none) else (some (wrap64 (Int.tdiv a1 t183)))))
set_option maxHeartbeats 8000000 in
set_option maxRecDepth 100000 in
theorem impl_unit.calls (k : Nat) (a0 : Int) (a1 : Int) (r : Int) (w : World) (h : impl_unit.f k a0 a1 = some r) :
  Calls Try.prog 53 #[.int .i64 a0, .int .i64 a1] w fun e w' => e = .returned (.int .i64 r) ∧ Drawn0 w w' := by
 unfold impl_unit.f at h
 have H := h
 clear h
 replace H := zi H
 obtain ⟨t182, A3, H⟩ := H
 try dsimp only at H
 replace H := zi H
 obtain ⟨t183, A4, H⟩ := H
 try dsimp only at H
 replace H := ii H
 rcases H with ⟨c5, H⟩ | ⟨c5, H⟩
 ·exact absurd H (by simp)
 ·obtain ⟨c5b0, c5b1⟩ := zy c5
  obtain rfl := Option.some.inj H
  go_enter Try.func53, Try.ntmps53
  go_wp2_with (first | ((with_reducible refine zf 50 rfl ?_); refine g1 (some 9) Try.func50 #[.int .i64 a0, .int .i64 a1] ?_; (with_reducible refine (impl_valuation.calls k a0 a1 t182 _ A3.out).mono ?_); rintro e w' ⟨rfl, ⟨nd, rfl⟩⟩; refine ⟨_, rfl, ?_⟩) | ((with_reducible refine zf 37 rfl ?_); refine g1 (some 10) Try.func37 #[.int .i64 a0, .int .i64 t182] ?_; (with_reducible refine (impl_power.calls k a0 t182 t183 _ A4.out).mono ?_); rintro e w' ⟨rfl, ⟨nd, rfl⟩⟩; refine ⟨_, rfl, ?_⟩))
  go_ret
  exact zx

/-! ### impl_LatticeOf: function 13 -/
mutual
def impl_LatticeOf.j0 : Nat → Int → Int → Int → Int → Option (Int × Int × Int × Int)
 | 0, _, _, _, _ => none
 | k + 1, x0, x12, x13, x14 => (impl_valuation.f k x0 x14).bind fun t192 => ((impl_valuation.f k x0 x12).bind fun t193 => (if (wrap64 (t193 - t192)) > 12 then (impl_LatticeOf.j1 k x0 x13 x14 t192 (wrap64 (t193 - t192)) true) else (impl_LatticeOf.j1 k x0 x13 x14 t192 (wrap64 (t193 - t192)) (decide (t192 > 12)))))
def impl_LatticeOf.j1 : Nat → Int → Int → Int → Int → Int → Bool → Option (Int × Int × Int × Int)
 | 0, _, _, _, _, _, _ => none
 | k + 1, x0, x13, x14, x15, x16, x67 => if x67 = true then (some (0, 0, 0, 3)) else ((impl_power.f k x0 x16).bind fun t194 => ((impl_unit.f k x0 x14).bind fun t195 => ((impl_inverse.f k t195 t194).bind fun t196 => ((impl_times.f k x13 t196 t194).bind fun t197 => ((impl_form.f x16 t197 x15).bind fun bt198 => (some (bt198.1, bt198.2.1, bt198.2.2.1, bt198.2.2.2)))))))
end
def impl_LatticeOf.f (k : Nat) (a0 : Int) (a1 : Int) (a2 : Int) (a3 : Int) (a4 : Int) : Option (Int × Int × Int × Int) := (impl_isPrime.f a0).bind fun t185 => (if t185 = true then ((impl_within.f k 1000000 (([a1, a2, a3, a4] : List Int))).bind fun t189 => (if t189 = true then (if (wrap64 ((wrap64 (a1 * a4)) - (wrap64 (a2 * a3)))) = 0 then (some (0, 0, 0, 5)) else ((impl_valuation.f k a0 a4).bind fun t190 => ((impl_valuation.f k a0 a3).bind fun t191 => (if t190 < t191 then (impl_LatticeOf.j0 k a0 (wrap64 ((wrap64 (a1 * a4)) - (wrap64 (a2 * a3)))) a2 a4) else (impl_LatticeOf.j0 k a0 (wrap64 ((wrap64 (a1 * a4)) - (wrap64 (a2 * a3)))) a1 a3))))) else (some (0, 0, 0, 2)))) else (some (0, 0, 0, 1)))
set_option maxHeartbeats 8000000 in
set_option maxRecDepth 100000 in
theorem impl_LatticeOf.calls (k : Nat) (a0 : Int) (a1 : Int) (a2 : Int) (a3 : Int) (a4 : Int) (r1 : Int) (r2 : Int) (r3 : Int) (r4 : Int) (w : World) (h : impl_LatticeOf.f k a0 a1 a2 a3 a4 = some (r1, r2, r3, r4)) :
  Calls Try.prog 13 #[.int .i64 a0, .int .i64 a1, .int .i64 a2, .int .i64 a3, .int .i64 a4] w fun e w' => e = .returned (.tuple #[.agg #[.int .i64 r1, .int .i64 r2, .int .i64 r3], .int .i64 r4]) ∧ Below w.heap.size w w' := by
 have hu27 := Try.underlying27
 have HB := Aside0.mk (Below.refl w.heap.size w)
 unfold impl_LatticeOf.f at h
 have H := h
 clear h
 replace H := zi H
 obtain ⟨t185, A6, H⟩ := H
 try dsimp only at H
 by_cases c7 : t185 = true
 ·subst c7
  rw [if_pos rfl] at H
  obtain ⟨y186, hy186⟩ : ∃ y_ : List Int, y_ = (([a1, a2, a3, a4] : List Int)) := ⟨_, rfl⟩
  replace H : ((impl_within.f k 1000000 y186).bind fun t189 => (if t189 = true then (if (wrap64 ((wrap64 (a1 * a4)) - (wrap64 (a2 * a3)))) = 0 then (some (0, 0, 0, 5)) else ((impl_valuation.f k a0 a4).bind fun t190 => ((impl_valuation.f k a0 a3).bind fun t191 => (if t190 < t191 then (impl_LatticeOf.j0 k a0 (wrap64 ((wrap64 (a1 * a4)) - (wrap64 (a2 * a3)))) a2 a4) else (impl_LatticeOf.j0 k a0 (wrap64 ((wrap64 (a1 * a4)) - (wrap64 (a2 * a3)))) a1 a3))))) else (some (0, 0, 0, 2)))) = some (r1, r2, r3, r4) := by first | exact hy186 ▸ H | exact H
  have Ny186 := Aside0.mk hy186
  clear hy186
  replace H := zi H
  obtain ⟨t189, A8, H⟩ := H
  try dsimp only at H
  by_cases c9 : t189 = true
  ·subst c9
   rw [if_pos rfl] at H
   replace H := ii H
   rcases H with ⟨c10, H⟩ | ⟨c10, H⟩
   ·obtain ⟨c10b0, c10b1⟩ := zz c10
    clear c10
    simp only [Option.some.injEq, Prod.mk.injEq] at H
    obtain ⟨rfl, rfl, rfl, rfl⟩ := H
    go_enter Try.func13, Try.ntmps13
    go_wp2_with (first | ((with_reducible refine zg 10 rfl ?_); refine z3 10 27 0 0 0 ?_; intro gb184 hg w11 BK184 hb; have GW184 := sg hg; replace HB := bs hb; clear hb hg) | ((with_reducible refine zf 48 rfl ?_); refine g1 (some 27) Try.func48 #[.int .i64 a0] ?_; (with_reducible refine (impl_isPrime.calls a0 true _ A6.out).mono ?_); rintro e w' ⟨rfl, ⟨nd, rfl⟩⟩; refine ⟨_, rfl, ?_⟩; (try (rw [drewN_self w11]; generalize hq_ : World.drewN w11 _ = w11; have n0_ : Aside0 (w11.heap[gb184]? = some (.cells #[.int .i64 0, .int .i64 0, .int .i64 0] 27 (0, 0))) := ⟨by rw [← hq_]; exact (be BK184)⟩; have n1_ : Aside0 (Below w.heap.size w w11) := ⟨by rw [← hq_]; exact (bl)⟩; clear BK184 HB hq_; have BK184 := n0_; have HB := n1_; clear n0_ n1_))) | ((with_reducible refine zg 35 rfl ?_); refine Kd.R_lit (Kd.int .i64) _ 2 ?hg (N := 35) ?hd (xs := ([a1, a2, a3, a4] : List Int)) (inner := [.int .i64 a1, .int .i64 a2, .int .i64 a3, .int .i64 a4]) (ok := fun _ => True) (okp := fun _ => True) ?hr ?hp (fun _ hk => hk) trivial (Below.refl _ _) (Nat.le_refl _) (by simp) ?_; (case hd => rfl); (case hg => rfl); (case hr => first | (go_simp; done) | (go_simp; rfl)); (case hp => exact (Reps.one (show Kd.M (Kd.int .i64) _ _ _ a1 [.int .i64 a1] from rfl) (Reps.one (show Kd.M (Kd.int .i64) _ _ _ a2 [.int .i64 a2] from rfl) (Reps.one (show Kd.M (Kd.int .i64) _ _ _ a3 [.int .i64 a3] from rfl) (Reps.one (show Kd.M (Kd.int .i64) _ _ _ a4 [.int .i64 a4] from rfl) (Reps.none _ _)))))); intro v187 w12 ho13 hb hg_ hnew_; clear hg_ hnew_; (first | rw [← Ny186.out] at ho13 | (simp only [Int.reduceToNat] at ho13; rw [← Ny186.out] at ho13)); have HO188 := Aside0.mk (Kd.R_lower ho13 (below_size (bl))); replace BK184 := bb BK184 hb; replace HB := bs hb; clear hb ho13; obtain ⟨Ao14, co14, eo14⟩ := Kd.R_slice HO188.out; subst eo14) | ((with_reducible refine zf 49 rfl ?_); refine g1 (some 36) Try.func49 #[.int .i64 1000000, .slice Ao14 y186.length co14] ?_; (with_reducible refine (impl_within.calls k 1000000 _ _ y186 true _ ?side1 ?side2 A8.out).mono ?_); (case side1 => repeat (first | exact (Kd.R_reads' HO188.out).2.2 | (with_reducible refine Kd.C_alloc ?_ _) | (with_reducible refine Kd.C_drewN ?_ _) | (with_reducible refine Kd.C_drew ?_))); (case side2 => exact (Kd.R_reads' HO188.out).2.1); rintro e w' ⟨rfl, ⟨nd, rfl⟩⟩; refine ⟨_, rfl, ?_⟩; (try (rw [drewN_self w12]; generalize hq_ : World.drewN w12 _ = w12; have n0_ : Aside0 (Kd.R (Kd.int .i64) 2 w12 w.heap.size (fun _ => True) (.slice Ao14 y186.length co14) y186) := ⟨by rw [← hq_]; exact (by (with_reducible repeat (first | apply Kd.R_alloc | apply Kd.R_drewN | apply Kd.R_drew)); exact HO188.out)⟩; have n1_ : Aside0 (w12.heap[gb184]? = some (.cells #[.int .i64 0, .int .i64 0, .int .i64 0] 27 (0, 0))) := ⟨by rw [← hq_]; exact (be BK184)⟩; have n2_ : Aside0 (Below w.heap.size w w12) := ⟨by rw [← hq_]; exact (bl)⟩; clear HO188 BK184 HB hq_; have HO188 := n0_; have BK184 := n1_; have HB := n2_; clear n0_ n1_ n2_)); obtain ⟨hcz15_0, hcz15_1, hcz15_2, hfz15_0, hfz15_1, hfz15_2⟩ := cq3 BK184))
    refine bodyPost_ret (results_ct rfl _ _ gb184 27 #[.int .i64 0, .int .i64 0, .int .i64 0] (0, 0) _ rfl (bp) Try.underlying27 rfl (by kernel_rfl)) rfl ?_
    exact ⟨er, bl⟩
   ·obtain ⟨c10b0, c10b1⟩ := zy c10
    replace H := zi H
    obtain ⟨t190, A16, H⟩ := H
    try dsimp only at H
    replace H := zi H
    obtain ⟨t191, A17, H⟩ := H
    try dsimp only at H
    have HC18 := Aside0.mk H
    clear H
    go_enter Try.func13, Try.ntmps13
    go_upto_if 51 with (first | ((with_reducible refine zg 10 rfl ?_); refine z3 10 27 0 0 0 ?_; intro gb184 hg w19 BK184 hb; have GW184 := sg hg; replace HB := bs hb; clear hb hg) | ((with_reducible refine zf 48 rfl ?_); refine g1 (some 27) Try.func48 #[.int .i64 a0] ?_; (with_reducible refine (impl_isPrime.calls a0 true _ A6.out).mono ?_); rintro e w' ⟨rfl, ⟨nd, rfl⟩⟩; refine ⟨_, rfl, ?_⟩) | ((with_reducible refine zg 35 rfl ?_); refine Kd.R_lit (Kd.int .i64) _ 2 ?hg (N := 35) ?hd (xs := ([a1, a2, a3, a4] : List Int)) (inner := [.int .i64 a1, .int .i64 a2, .int .i64 a3, .int .i64 a4]) (ok := fun _ => True) (okp := fun _ => True) ?hr ?hp (fun _ hk => hk) trivial (Below.refl _ _) (Nat.le_refl _) (by simp) ?_; (case hd => rfl); (case hg => rfl); (case hr => first | (go_simp; done) | (go_simp; rfl)); (case hp => exact (Reps.one (show Kd.M (Kd.int .i64) _ _ _ a1 [.int .i64 a1] from rfl) (Reps.one (show Kd.M (Kd.int .i64) _ _ _ a2 [.int .i64 a2] from rfl) (Reps.one (show Kd.M (Kd.int .i64) _ _ _ a3 [.int .i64 a3] from rfl) (Reps.one (show Kd.M (Kd.int .i64) _ _ _ a4 [.int .i64 a4] from rfl) (Reps.none _ _)))))); intro v187 w20 ho21 hb hg_ hnew_; clear hg_ hnew_; (first | rw [← Ny186.out] at ho21 | (simp only [Int.reduceToNat] at ho21; rw [← Ny186.out] at ho21)); have HO188 := Aside0.mk (Kd.R_lower ho21 (below_size (bl))); replace BK184 := bb BK184 hb; replace HB := bs hb; clear hb ho21; obtain ⟨Ao22, co22, eo22⟩ := Kd.R_slice HO188.out; subst eo22) | ((with_reducible refine zf 49 rfl ?_); refine g1 (some 36) Try.func49 #[.int .i64 1000000, .slice Ao22 y186.length co22] ?_; (with_reducible refine (impl_within.calls k 1000000 _ _ y186 true _ ?side1 ?side2 A8.out).mono ?_); (case side1 => repeat (first | exact (Kd.R_reads' HO188.out).2.2 | (with_reducible refine Kd.C_alloc ?_ _) | (with_reducible refine Kd.C_drewN ?_ _) | (with_reducible refine Kd.C_drew ?_))); (case side2 => exact (Kd.R_reads' HO188.out).2.1); rintro e w' ⟨rfl, ⟨nd, rfl⟩⟩; refine ⟨_, rfl, ?_⟩) | ((with_reducible refine zf 50 rfl ?_); refine g1 (some 47) Try.func50 #[.int .i64 a0, .int .i64 a4] ?_; (with_reducible refine (impl_valuation.calls k a0 a4 t190 _ A16.out).mono ?_); rintro e w' ⟨rfl, ⟨nd, rfl⟩⟩; refine ⟨_, rfl, ?_⟩) | ((with_reducible refine zf 50 rfl ?_); refine g1 (some 50) Try.func50 #[.int .i64 a0, .int .i64 a3] ?_; (with_reducible refine (impl_valuation.calls k a0 a3 t191 _ A17.out).mono ?_); rintro e w' ⟨rfl, ⟨nd, rfl⟩⟩; refine ⟨_, rfl, ?_⟩))
    (try simp only [Act.put, zq, zr, zt])
    go_cut [13, 14] (fun v13 v14 wc => ∃ (kq : Nat) (x13_17 : Int) (x14_17 : Int), v13 = .int .i64 x13_17 ∧ v14 = .int .i64 x14_17 ∧ Aside0 (impl_LatticeOf.j0 kq a0 (wrap64 ((wrap64 (a1 * a4)) - (wrap64 (a2 * a3)))) x13_17 x14_17 = some (r1, r2, r3, r4)) ∧ Aside0 (kq ≤ k) ∧ Aside0 (wc.heap[gb184]? = some (.cells #[.int .i64 0, .int .i64 0, .int .i64 0] 27 (0, 0))) ∧ Aside0 (Below w.heap.size w wc))
    case first =>
     have H := HC18.out
     clear HC18
     replace H := ii H
     rcases H with ⟨c23, H⟩ | ⟨c23, H⟩
     ·have c23b0 := decide_eq_true c23
      clear c23
      (first | rw [c23b0] | (simp only [i64_w, i32_w]; rw [c23b0]) | skip)
      have H' := Aside0.mk H
      clear H
      go_wp2
      go_meet
      case rel => exact ⟨_, (a2), (a4), (by first | rfl | (simp; done) | (simp [*]; done)), (by first | rfl | (simp; done) | (simp [*]; done)), H', ⟨by first | omega | exact Nat.le_refl _⟩, ⟨be BK184⟩, ⟨bl⟩⟩
     ·have c23b0 := decide_eq_false c23
      clear c23
      (first | rw [c23b0] | (simp only [i64_w, i32_w]; rw [c23b0]) | skip)
      have H' := Aside0.mk H
      clear H
      go_wp2
      go_meet
      case rel => exact ⟨_, (a1), (a3), (by first | rfl | (simp; done) | (simp [*]; done)), (by first | rfl | (simp; done) | (simp [*]; done)), H', ⟨by first | omega | exact Nat.le_refl _⟩, ⟨be BK184⟩, ⟨bl⟩⟩
    case rest =>
     clear HC18
     obtain ⟨kq, x13_17, x14_17, rfl, rfl, HA, HJ17, BK184, HB⟩ := hcut
     cases kq with
     | zero => exact absurd HA.out (by simp [impl_LatticeOf.j0])
     | succ kj17 =>
      have H := HA.out
      clear HA
      simp only [impl_LatticeOf.j0] at H
      replace H := zi H
      obtain ⟨t192, A24, H⟩ := H
      try dsimp only at H
      replace H := zi H
      obtain ⟨t193, A25, H⟩ := H
      try dsimp only at H
      have HC26 := Aside0.mk H
      clear H
      go_upto_region 13 with (first | ((with_reducible refine zf 50 rfl ?_); refine g1 (some 56) Try.func50 #[.int .i64 a0, .int .i64 x14_17] ?_; (with_reducible refine (impl_valuation.calls kj17 a0 x14_17 t192 _ A24.out).mono ?_); rintro e w' ⟨rfl, ⟨nd, rfl⟩⟩; refine ⟨_, rfl, ?_⟩) | ((with_reducible refine zf 50 rfl ?_); refine g1 (some 59) Try.func50 #[.int .i64 a0, .int .i64 (wrap64 ((wrap64 (a1 * a4)) - (wrap64 (a2 * a3))))] ?_; (with_reducible refine (impl_valuation.calls kj17 a0 (wrap64 ((wrap64 (a1 * a4)) - (wrap64 (a2 * a3)))) t193 _ A25.out).mono ?_); rintro e w' ⟨rfl, ⟨nd, rfl⟩⟩; refine ⟨_, rfl, ?_⟩))
      (try simp only [Act.put, zq, zr, zt])
      go_cut [67] (fun v67 wc => ∃ (kq : Nat) (x67_25 : Bool), v67 = .bool x67_25 ∧ Aside0 (impl_LatticeOf.j1 kq a0 x13_17 x14_17 t192 (wrap64 (t193 - t192)) x67_25 = some (r1, r2, r3, r4)) ∧ Aside0 (kq ≤ kj17) ∧ Aside0 (wc.heap[gb184]? = some (.cells #[.int .i64 0, .int .i64 0, .int .i64 0] 27 (0, 0))) ∧ Aside0 (Below w.heap.size w wc))
      case first =>
       have H := HC26.out
       clear HC26
       replace H := ii H
       rcases H with ⟨c27, H⟩ | ⟨c27, H⟩
       ·have c27b0 := decide_eq_true c27
        clear c27
        (first | rw [c27b0] | (simp only [i64_w, i32_w]; rw [c27b0]) | skip)
        have H' := Aside0.mk H
        clear H
        go_wp2
        go_meet
        case rel => exact ⟨_, (true), (by first | rfl | (simp; done) | (simp [*]; done)), H', ⟨by have := HJ17.out; first | omega | exact Nat.le_refl _⟩, ⟨be BK184⟩, ⟨bl⟩⟩
       ·have c27b0 := decide_eq_false c27
        clear c27
        (first | rw [c27b0] | (simp only [i64_w, i32_w]; rw [c27b0]) | skip)
        have H' := Aside0.mk H
        clear H
        go_wp2
        go_meet
        case rel => exact ⟨_, (decide (t192 > 12)), (by first | rfl | (simp; done) | (simp [*]; done)), H', ⟨by have := HJ17.out; first | omega | exact Nat.le_refl _⟩, ⟨be BK184⟩, ⟨bl⟩⟩
      case rest =>
       clear HC26
       obtain ⟨kq, x67_25, rfl, HA, HJ25, BK184, HB⟩ := hcut
       cases kq with
       | zero => exact absurd HA.out (by simp [impl_LatticeOf.j1])
       | succ kj25 =>
        have H := HA.out
        clear HA
        simp only [impl_LatticeOf.j1] at H
        by_cases c28 : x67_25 = true
        ·subst c28
         rw [if_pos rfl] at H
         simp only [Option.some.injEq, Prod.mk.injEq] at H
         obtain ⟨rfl, rfl, rfl, rfl⟩ := H
         obtain ⟨hcz29_0, hcz29_1, hcz29_2, hfz29_0, hfz29_1, hfz29_2⟩ := cq3 BK184
         go_wp2
         refine bodyPost_ret (results_ct rfl _ _ gb184 27 #[.int .i64 0, .int .i64 0, .int .i64 0] (0, 0) _ rfl (bp) Try.underlying27 rfl (by kernel_rfl)) rfl ?_
         exact ⟨er, bl⟩
        ·replace c28 := Bool.eq_false_iff.mpr c28
         subst c28
         have H1 : ((impl_power.f kj25 a0 (wrap64 (t193 - t192))).bind fun t194 => ((impl_unit.f kj25 a0 x14_17).bind fun t195 => ((impl_inverse.f kj25 t195 t194).bind fun t196 => ((impl_times.f kj25 x13_17 t196 t194).bind fun t197 => ((impl_form.f (wrap64 (t193 - t192)) t197 t192).bind fun bt198 => (some (bt198.1, bt198.2.1, bt198.2.2.1, bt198.2.2.2))))))) = some (r1, r2, r3, r4) := by rw [if_neg (show ¬ (false = true) by decide)] at H; exact H
         clear H
         have H := H1
         clear H1
         replace H := zi H
         obtain ⟨t194, A30, H⟩ := H
         try dsimp only at H
         replace H := zi H
         obtain ⟨t195, A31, H⟩ := H
         try dsimp only at H
         replace H := zi H
         obtain ⟨t196, A32, H⟩ := H
         try dsimp only at H
         replace H := zi H
         obtain ⟨t197, A33, H⟩ := H
         try dsimp only at H
         replace H := zi H
         obtain ⟨⟨t198, t199, t200, t201⟩, A34, H⟩ := H
         try dsimp only at H
         simp only [Option.some.injEq, Prod.mk.injEq] at H
         obtain ⟨rfl, rfl, rfl, rfl⟩ := H
         go_wp2_with (first | ((with_reducible refine zf 37 rfl ?_); refine g1 (some 71) Try.func37 #[.int .i64 a0, .int .i64 (wrap64 (t193 - t192))] ?_; (with_reducible refine (impl_power.calls kj25 a0 (wrap64 (t193 - t192)) t194 _ A30.out).mono ?_); rintro e w' ⟨rfl, ⟨nd, rfl⟩⟩; refine ⟨_, rfl, ?_⟩; (try (rw [drewN_self wc]; generalize hq_ : World.drewN wc _ = wc; have n0_ : Aside0 (wc.heap[gb184]? = some (.cells #[.int .i64 0, .int .i64 0, .int .i64 0] 27 (0, 0))) := ⟨by rw [← hq_]; exact (be BK184)⟩; have n1_ : Aside0 (Below w.heap.size w wc) := ⟨by rw [← hq_]; exact (bl)⟩; clear BK184 HB hq_; have BK184 := n0_; have HB := n1_; clear n0_ n1_))) | ((with_reducible refine zf 53 rfl ?_); refine g1 (some 76) Try.func53 #[.int .i64 a0, .int .i64 x14_17] ?_; (with_reducible refine (impl_unit.calls kj25 a0 x14_17 t195 _ A31.out).mono ?_); rintro e w' ⟨rfl, ⟨nd, rfl⟩⟩; refine ⟨_, rfl, ?_⟩; (try (rw [drewN_self wc]; generalize hq_ : World.drewN wc _ = wc; have n0_ : Aside0 (wc.heap[gb184]? = some (.cells #[.int .i64 0, .int .i64 0, .int .i64 0] 27 (0, 0))) := ⟨by rw [← hq_]; exact (be BK184)⟩; have n1_ : Aside0 (Below w.heap.size w wc) := ⟨by rw [← hq_]; exact (bl)⟩; clear BK184 HB hq_; have BK184 := n0_; have HB := n1_; clear n0_ n1_))) | ((with_reducible refine zf 52 rfl ?_); refine g1 (some 78) Try.func52 #[.int .i64 t195, .int .i64 t194] ?_; (with_reducible refine (impl_inverse.calls kj25 t195 t194 t196 _ A32.out).mono ?_); rintro e w' ⟨rfl, ⟨nd, rfl⟩⟩; refine ⟨_, rfl, ?_⟩; (try (rw [drewN_self wc]; generalize hq_ : World.drewN wc _ = wc; have n0_ : Aside0 (wc.heap[gb184]? = some (.cells #[.int .i64 0, .int .i64 0, .int .i64 0] 27 (0, 0))) := ⟨by rw [← hq_]; exact (be BK184)⟩; have n1_ : Aside0 (Below w.heap.size w wc) := ⟨by rw [← hq_]; exact (bl)⟩; clear BK184 HB hq_; have BK184 := n0_; have HB := n1_; clear n0_ n1_))) | ((with_reducible refine zf 39 rfl ?_); refine g1 (some 80) Try.func39 #[.int .i64 x13_17, .int .i64 t196, .int .i64 t194] ?_; (with_reducible refine (impl_times.calls kj25 x13_17 t196 t194 t197 _ A33.out).mono ?_); rintro e w' ⟨rfl, ⟨nd, rfl⟩⟩; refine ⟨_, rfl, ?_⟩; (try (rw [drewN_self wc]; generalize hq_ : World.drewN wc _ = wc; have n0_ : Aside0 (wc.heap[gb184]? = some (.cells #[.int .i64 0, .int .i64 0, .int .i64 0] 27 (0, 0))) := ⟨by rw [← hq_]; exact (be BK184)⟩; have n1_ : Aside0 (Below w.heap.size w wc) := ⟨by rw [← hq_]; exact (bl)⟩; clear BK184 HB hq_; have BK184 := n0_; have HB := n1_; clear n0_ n1_))) | ((with_reducible refine zf 51 rfl ?_); refine g1 (some 82) Try.func51 #[.int .i64 (wrap64 (t193 - t192)), .int .i64 t197, .int .i64 t192] ?_; (with_reducible refine (impl_form.calls (wrap64 (t193 - t192)) t197 t192 t198 t199 t200 t201 _ A34.out).mono ?_); rintro e w35 ⟨rfl, hb⟩; refine ⟨_, rfl, ?_⟩; replace BK184 := bb BK184 hb; replace HB := bs hb; (try clear hb); obtain ⟨hcz36_0, hcz36_1, hcz36_2, hfz36_0, hfz36_1, hfz36_2⟩ := cq3 BK184))
         refine bodyPost_ret (results_ct rfl _ _ gb184 27 #[.int .i64 t198, .int .i64 t199, .int .i64 t200] (0, 0) _ rfl (bp) Try.underlying27 rfl (by kernel_rfl)) rfl ?_
         exact ⟨er, bl⟩
  ·replace c9 := Bool.eq_false_iff.mpr c9
   subst c9
   have H1 : (some (0, 0, 0, 2)) = some (r1, r2, r3, r4) := by rw [if_neg (show ¬ (false = true) by decide)] at H; exact H
   clear H
   have H := H1
   clear H1
   simp only [Option.some.injEq, Prod.mk.injEq] at H
   obtain ⟨rfl, rfl, rfl, rfl⟩ := H
   go_enter Try.func13, Try.ntmps13
   go_wp2_with (first | ((with_reducible refine zg 10 rfl ?_); refine z3 10 27 0 0 0 ?_; intro gb184 hg w37 BK184 hb; have GW184 := sg hg; replace HB := bs hb; clear hb hg) | ((with_reducible refine zf 48 rfl ?_); refine g1 (some 27) Try.func48 #[.int .i64 a0] ?_; (with_reducible refine (impl_isPrime.calls a0 true _ A6.out).mono ?_); rintro e w' ⟨rfl, ⟨nd, rfl⟩⟩; refine ⟨_, rfl, ?_⟩; (try (rw [drewN_self w37]; generalize hq_ : World.drewN w37 _ = w37; have n0_ : Aside0 (w37.heap[gb184]? = some (.cells #[.int .i64 0, .int .i64 0, .int .i64 0] 27 (0, 0))) := ⟨by rw [← hq_]; exact (be BK184)⟩; have n1_ : Aside0 (Below w.heap.size w w37) := ⟨by rw [← hq_]; exact (bl)⟩; clear BK184 HB hq_; have BK184 := n0_; have HB := n1_; clear n0_ n1_))) | ((with_reducible refine zg 35 rfl ?_); refine Kd.R_lit (Kd.int .i64) _ 2 ?hg (N := 35) ?hd (xs := ([a1, a2, a3, a4] : List Int)) (inner := [.int .i64 a1, .int .i64 a2, .int .i64 a3, .int .i64 a4]) (ok := fun _ => True) (okp := fun _ => True) ?hr ?hp (fun _ hk => hk) trivial (Below.refl _ _) (Nat.le_refl _) (by simp) ?_; (case hd => rfl); (case hg => rfl); (case hr => first | (go_simp; done) | (go_simp; rfl)); (case hp => exact (Reps.one (show Kd.M (Kd.int .i64) _ _ _ a1 [.int .i64 a1] from rfl) (Reps.one (show Kd.M (Kd.int .i64) _ _ _ a2 [.int .i64 a2] from rfl) (Reps.one (show Kd.M (Kd.int .i64) _ _ _ a3 [.int .i64 a3] from rfl) (Reps.one (show Kd.M (Kd.int .i64) _ _ _ a4 [.int .i64 a4] from rfl) (Reps.none _ _)))))); intro v187 w38 ho39 hb hg_ hnew_; clear hg_ hnew_; (first | rw [← Ny186.out] at ho39 | (simp only [Int.reduceToNat] at ho39; rw [← Ny186.out] at ho39)); have HO188 := Aside0.mk (Kd.R_lower ho39 (below_size (bl))); replace BK184 := bb BK184 hb; replace HB := bs hb; clear hb ho39; obtain ⟨Ao40, co40, eo40⟩ := Kd.R_slice HO188.out; subst eo40) | ((with_reducible refine zf 49 rfl ?_); refine g1 (some 36) Try.func49 #[.int .i64 1000000, .slice Ao40 y186.length co40] ?_; (with_reducible refine (impl_within.calls k 1000000 _ _ y186 false _ ?side1 ?side2 A8.out).mono ?_); (case side1 => repeat (first | exact (Kd.R_reads' HO188.out).2.2 | (with_reducible refine Kd.C_alloc ?_ _) | (with_reducible refine Kd.C_drewN ?_ _) | (with_reducible refine Kd.C_drew ?_))); (case side2 => exact (Kd.R_reads' HO188.out).2.1); rintro e w' ⟨rfl, ⟨nd, rfl⟩⟩; refine ⟨_, rfl, ?_⟩; (try (rw [drewN_self w38]; generalize hq_ : World.drewN w38 _ = w38; have n0_ : Aside0 (Kd.R (Kd.int .i64) 2 w38 w.heap.size (fun _ => True) (.slice Ao40 y186.length co40) y186) := ⟨by rw [← hq_]; exact (by (with_reducible repeat (first | apply Kd.R_alloc | apply Kd.R_drewN | apply Kd.R_drew)); exact HO188.out)⟩; have n1_ : Aside0 (w38.heap[gb184]? = some (.cells #[.int .i64 0, .int .i64 0, .int .i64 0] 27 (0, 0))) := ⟨by rw [← hq_]; exact (be BK184)⟩; have n2_ : Aside0 (Below w.heap.size w w38) := ⟨by rw [← hq_]; exact (bl)⟩; clear HO188 BK184 HB hq_; have HO188 := n0_; have BK184 := n1_; have HB := n2_; clear n0_ n1_ n2_)); obtain ⟨hcz41_0, hcz41_1, hcz41_2, hfz41_0, hfz41_1, hfz41_2⟩ := cq3 BK184))
   refine bodyPost_ret (results_ct rfl _ _ gb184 27 #[.int .i64 0, .int .i64 0, .int .i64 0] (0, 0) _ rfl (bp) Try.underlying27 rfl (by kernel_rfl)) rfl ?_
   exact ⟨er, bl⟩
 ·replace c7 := Bool.eq_false_iff.mpr c7
  subst c7
  have H1 : (some (0, 0, 0, 1)) = some (r1, r2, r3, r4) := by rw [if_neg (show ¬ (false = true) by decide)] at H; exact H
  clear H
  have H := H1
  clear H1
  simp only [Option.some.injEq, Prod.mk.injEq] at H
  obtain ⟨rfl, rfl, rfl, rfl⟩ := H
  go_enter Try.func13, Try.ntmps13
  go_wp2_with (first | ((with_reducible refine zg 10 rfl ?_); refine z3 10 27 0 0 0 ?_; intro gb184 hg w42 BK184 hb; have GW184 := sg hg; replace HB := bs hb; clear hb hg) | ((with_reducible refine zf 48 rfl ?_); refine g1 (some 27) Try.func48 #[.int .i64 a0] ?_; (with_reducible refine (impl_isPrime.calls a0 false _ A6.out).mono ?_); rintro e w' ⟨rfl, ⟨nd, rfl⟩⟩; refine ⟨_, rfl, ?_⟩; (try (rw [drewN_self w42]; generalize hq_ : World.drewN w42 _ = w42; have n0_ : Aside0 (w42.heap[gb184]? = some (.cells #[.int .i64 0, .int .i64 0, .int .i64 0] 27 (0, 0))) := ⟨by rw [← hq_]; exact (be BK184)⟩; have n1_ : Aside0 (Below w.heap.size w w42) := ⟨by rw [← hq_]; exact (bl)⟩; clear BK184 HB hq_; have BK184 := n0_; have HB := n1_; clear n0_ n1_)); obtain ⟨hcz43_0, hcz43_1, hcz43_2, hfz43_0, hfz43_1, hfz43_2⟩ := cq3 BK184))
  refine bodyPost_ret (results_ct rfl _ _ gb184 27 #[.int .i64 0, .int .i64 0, .int .i64 0] (0, 0) _ rfl (bp) Try.underlying27 rfl (by kernel_rfl)) rfl ?_
  exact ⟨er, bl⟩

/-! ### spec_l01In: function 33 -/
def spec_l01In.f (a0 : Int) (a1 : Int) (a2 : Int) : Option (Bool) := if a0 ≥ a1 then (some (decide (a0 ≤ a2))) else (some false)
set_option maxHeartbeats 8000000 in
set_option maxRecDepth 100000 in
theorem spec_l01In.calls (a0 : Int) (a1 : Int) (a2 : Int) (r : Bool) (w : World) (h : spec_l01In.f a0 a1 a2 = some r) :
  Calls Try.prog 33 #[.int .i64 a0, .int .i64 a1, .int .i64 a2] w fun e w' => e = .returned (.bool r) ∧ Drawn0 w w' := by
 unfold spec_l01In.f at h
 have H := h
 clear h
 replace H := ii H
 rcases H with ⟨c4, H⟩ | ⟨c4, H⟩
 ·have c4b0 := decide_eq_true c4
  clear c4
  obtain rfl := Option.some.inj H
  go_enter Try.func33, Try.ntmps33
  go_wp2
  go_ret
  exact zx
 ·have c4b0 := decide_eq_false c4
  clear c4
  obtain rfl := Option.some.inj H
  go_enter Try.func33, Try.ntmps33
  go_wp2
  go_ret
  exact zx

/-! ### spec_l01Prime: function 54 -/
def spec_l01Prime.f (a0 : Int) : Option (Bool) := if a0 = 2 then (some true) else (if a0 = 3 then (some true) else (if a0 = 5 then (some true) else (some (a0 == 7))))
set_option maxHeartbeats 8000000 in
set_option maxRecDepth 100000 in
theorem spec_l01Prime.calls (a0 : Int) (r : Bool) (w : World) (h : spec_l01Prime.f a0 = some r) :
  Calls Try.prog 54 #[.int .i64 a0] w fun e w' => e = .returned (.bool r) ∧ Drawn0 w w' := by
 unfold spec_l01Prime.f at h
 have H := h
 clear h
 replace H := ii H
 rcases H with ⟨c2, H⟩ | ⟨c2, H⟩
 ·obtain ⟨c2b0, c2b1⟩ := zz c2
  clear c2
  obtain rfl := Option.some.inj H
  go_enter Try.func54, Try.ntmps54
  go_wp2
  go_ret
  exact zx
 ·obtain ⟨c2b0, c2b1⟩ := zy c2
  replace H := ii H
  rcases H with ⟨c3, H⟩ | ⟨c3, H⟩
  ·obtain ⟨c3b0, c3b1⟩ := zz c3
   clear c3
   obtain rfl := Option.some.inj H
   go_enter Try.func54, Try.ntmps54
   go_wp2
   go_ret
   exact zx
  ·obtain ⟨c3b0, c3b1⟩ := zy c3
   replace H := ii H
   rcases H with ⟨c4, H⟩ | ⟨c4, H⟩
   ·obtain ⟨c4b0, c4b1⟩ := zz c4
    clear c4
    obtain rfl := Option.some.inj H
    go_enter Try.func54, Try.ntmps54
    go_wp2
    go_ret
    exact zx
   ·obtain ⟨c4b0, c4b1⟩ := zy c4
    obtain rfl := Option.some.inj H
    go_enter Try.func54, Try.ntmps54
    go_wp2
    go_ret
    exact zx

/-! ### spec_l01MulMod: function 35 -/
def spec_l01MulMod.f (a0 : Int) (a1 : Int) (a2 : Int) : Option (Int) := if a2 = 0 then (none) else (some (Int.tmod (wrap64 ((Int.tmod (wrap64 ((Int.tmod (wrap64 ((Int.tmod (wrap64 ((Int.tmod a0 a2) + a2)) a2) * (wrap64 (Int.tdiv (Int.tmod (wrap64 ((Int.tmod a1 a2) + a2)) a2) 1000000)))) a2) * 1000000)) a2) + (Int.tmod (wrap64 ((Int.tmod (wrap64 ((Int.tmod a0 a2) + a2)) a2) * (Int.tmod (Int.tmod (wrap64 ((Int.tmod a1 a2) + a2)) a2) 1000000))) a2))) a2))
set_option maxHeartbeats 8000000 in
set_option maxRecDepth 100000 in
theorem spec_l01MulMod.calls (a0 : Int) (a1 : Int) (a2 : Int) (r : Int) (w : World) (h : spec_l01MulMod.f a0 a1 a2 = some r) :
  Calls Try.prog 35 #[.int .i64 a0, .int .i64 a1, .int .i64 a2] w fun e w' => e = .returned (.int .i64 r) ∧ Drawn0 w w' := by
 unfold spec_l01MulMod.f at h
 have H := h
 clear h
 replace H := ii H
 rcases H with ⟨c4, H⟩ | ⟨c4, H⟩
 ·exact absurd H (by simp)
 ·obtain ⟨c4b0, c4b1⟩ := zy c4
  obtain rfl := Option.some.inj H
  go_enter Try.func35, Try.ntmps35
  go_wp2
  repeat (go_quiet (fail); try go_wp2)
  go_ret
  exact zx

/-! ### spec_l01Val: function 77 -/
def spec_l01Val.l0 : Nat → Int → Int → Int → Option (Int)
 | 0, _, _, _ => none
 | k + 1, x0, x1, x5 => if x0 = 0 then (none) else (if (Int.tmod x1 x0) = 0 then (spec_l01Val.l0 k x0 (wrap64 (Int.tdiv x1 x0)) (wrap64 (x5 + 1))) else (some x5))
def spec_l01Val.f (k : Nat) (a0 : Int) (a1 : Int) : Option (Int) := spec_l01Val.l0 k a0 a1 0
set_option maxHeartbeats 8000000 in
set_option maxRecDepth 100000 in
theorem spec_l01Val.calls (k : Nat) (a0 : Int) (a1 : Int) (r : Int) (w : World) (h : spec_l01Val.f k a0 a1 = some r) :
  Calls Try.prog 77 #[.int .i64 a0, .int .i64 a1] w fun e w' => e = .returned (.int .i64 r) ∧ Drawn0 w w' := by
 unfold spec_l01Val.f at h
 have H := h
 clear h
 have H' := Aside0.mk H
 clear H
 go_enter Try.func77, Try.ntmps77
 go_wp2
 go_loopg [1, 5] k (fun kq v1 v5 w' => ∃ (x1_1 : Int) (x5_1 : Int), v1 = .int .i64 x1_1 ∧ v5 = .int .i64 x5_1 ∧ Aside0 (spec_l01Val.l0 kq a0 x1_1 x5_1 = some r) ∧ Aside0 (kq ≤ k) ∧ Drawn0 w w')
 case atStart => exact ⟨(a1), (0), (by first | rfl | (simp; done) | (simp [*]; done)), (by first | rfl | (simp; done) | (simp [*]; done)), H', ⟨Nat.le_refl _⟩, by repeat (first | exact Drawn0.refl _ | apply Drawn0.step)⟩
 case round =>
  clear H'
  obtain ⟨x1_1, x5_1, rfl, rfl, HA, HK1, ⟨m1, rfl⟩⟩ := hrel
  cases gk with
  | zero => exact absurd HA.out (by simp [spec_l01Val.l0])
  | succ k1 =>
   have H := HA.out
   clear HA
   simp only [spec_l01Val.l0] at H
   replace H := ii H
   rcases H with ⟨c3, H⟩ | ⟨c3, H⟩
   ·exact absurd H (by simp)
   ·obtain ⟨c3b0, c3b1⟩ := zy c3
    replace H := ii H
    rcases H with ⟨c4, H⟩ | ⟨c4, H⟩
    ·obtain ⟨c4b0, c4b1⟩ := zz c4
     clear c4
     have H' := Aside0.mk H
     clear H
     go_wp2
     go_roundg k1
     case measure => have := HK1.out; omega
     case rel => exact ⟨(wrap64 (Int.tdiv x1_1 a0)), (wrap64 (x5_1 + 1)), (by first | rfl | (simp; done) | (simp [*]; done)), (by first | rfl | (simp; done) | (simp [*]; done)), H', ⟨by have := HK1.out; omega⟩, by repeat (first | exact Drawn0.refl _ | apply Drawn0.step)⟩
    ·obtain ⟨c4b0, c4b1⟩ := zy c4
     obtain rfl := Option.some.inj H
     go_wp2
     go_ret
     exact zx

/-! ### spec_l03Vals: function 76 -/
def spec_l03Vals.f (k : Nat) (a0 : Int) (a1 : Int) : Option (Int) := if a1 = 0 then (some 100) else ((spec_l01Val.f k a0 a1).bind fun t202 => (some t202))
set_option maxHeartbeats 8000000 in
set_option maxRecDepth 100000 in
theorem spec_l03Vals.calls (k : Nat) (a0 : Int) (a1 : Int) (r : Int) (w : World) (h : spec_l03Vals.f k a0 a1 = some r) :
  Calls Try.prog 76 #[.int .i64 a0, .int .i64 a1] w fun e w' => e = .returned (.int .i64 r) ∧ Drawn0 w w' := by
 unfold spec_l03Vals.f at h
 have H := h
 clear h
 replace H := ii H
 rcases H with ⟨c3, H⟩ | ⟨c3, H⟩
 ·obtain ⟨c3b0, c3b1⟩ := zz c3
  clear c3
  obtain rfl := Option.some.inj H
  go_enter Try.func76, Try.ntmps76
  go_wp2
  go_ret
  exact zx
 ·obtain ⟨c3b0, c3b1⟩ := zy c3
  replace H := zi H
  obtain ⟨t202, A4, H⟩ := H
  try dsimp only at H
  obtain rfl := Option.some.inj H
  go_enter Try.func76, Try.ntmps76
  go_wp2_with (first | ((with_reducible refine zf 77 rfl ?_); refine g1 (some 9) Try.func77 #[.int .i64 a0, .int .i64 a1] ?_; (with_reducible refine (spec_l01Val.calls k a0 a1 t202 _ A4.out).mono ?_); rintro e w' ⟨rfl, ⟨nd, rfl⟩⟩; refine ⟨_, rfl, ?_⟩))
  go_ret
  exact zx

end Go.Proofs.Ytkfodnlogflcpaa.PFnLattices
