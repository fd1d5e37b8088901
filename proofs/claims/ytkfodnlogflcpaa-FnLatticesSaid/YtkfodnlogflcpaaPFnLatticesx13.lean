-- Printed by the kit's print and repaired by a program of this session.
import Derived.Test.YtkfodnlogflcpaaPFnLatticesx0
import Derived.Test.YtkfodnlogflcpaaPFnLatticesx4
import Derived.Test.YtkfodnlogflcpaaPFnLatticesx5
import Derived.Test.YtkfodnlogflcpaaPFnLatticesx6
import Derived.Test.YtkfodnlogflcpaaPFnLatticesx8
import Derived.Test.YtkfodnlogflcpaaPFnLatticesx12
namespace Go.Proofs.Ytkfodnlogflcpaa.PFnLattices
open Go.RowKit Go.Proofs.YtkfodnlogflcpaaW.PrintWords Go.Proofs.YtkfodnlogflcpaaW.PrintLast Go.Proofs.YtkfodnlogflcpaaW.PrintMore
attribute [local go_sem] max2_int min2_int max_two min_two max_three min_three max_four min_four
set_option linter.unusedVariables false
set_option linter.unusedSimpArgs false

/-! ### impl_ballAt: function 63 -/
def impl_ballAt.j0 : Nat → Int → Int → Int → Int → Int → Bool → Option (Int × Int × Int × Bool)
 | 0, _, _, _, _, _, _ => none
 | k + 1, x0, x1, x2, x3, x10, x24 => if x24 = true then (some (x3, 0, 0, true)) else (if x10 < (-6) then (some (0, 0, 0, false)) else ((impl_power.f k x0 (wrap64 (x3 + 6))).bind fun t405 => ((impl_unit.f k x0 x1).bind fun t406 => ((impl_unit.f k x0 x2).bind fun t407 => ((impl_inverse.f k t407 t405).bind fun t408 => ((impl_times.f k t406 t408 t405).bind fun t409 => ((impl_power.f k x0 (wrap64 (x10 + 6))).bind fun t410 => ((impl_times.f k t409 t410 t405).bind fun t411 => ((impl_ofMark.f k x0 x3 t411).bind fun bt412 => (some (bt412.1, bt412.2.1, bt412.2.2.1, bt412.2.2.2)))))))))))
def impl_ballAt.f (k : Nat) (a0 : Int) (a1 : Int) (a2 : Int) (a3 : Int) : Option (Int × Int × Int × Bool) := (impl_isLevel.f a3).bind fun t402 => (if t402 = true then ((impl_valuation.f k a0 a1).bind fun t403 => ((impl_valuation.f k a0 a2).bind fun t404 => (if a1 = 0 then (impl_ballAt.j0 k a0 a1 a2 a3 (wrap64 (t403 - t404)) true) else (impl_ballAt.j0 k a0 a1 a2 a3 (wrap64 (t403 - t404)) (decide ((wrap64 (t403 - t404)) ≥ a3)))))) else (some (0, 0, 0, false)))
set_option maxHeartbeats 8000000 in
set_option maxRecDepth 100000 in
theorem impl_ballAt.calls (k : Nat) (a0 : Int) (a1 : Int) (a2 : Int) (a3 : Int) (r1 : Int) (r2 : Int) (r3 : Int) (r4 : Bool) (w : World) (h : impl_ballAt.f k a0 a1 a2 a3 = some (r1, r2, r3, r4)) :
  Calls Try.prog 63 #[.int .i64 a0, .int .i64 a1, .int .i64 a2, .int .i64 a3] w fun e w' => e = .returned (.tuple #[.agg #[.int .i64 r1, .int .i64 r2, .int .i64 r3], .bool r4]) ∧ Below w.heap.size w w' := by
 have hu50 := Try.underlying50
 have HB := Aside0.mk (Below.refl w.heap.size w)
 unfold impl_ballAt.f at h
 have H := h
 clear h
 replace H := zi H
 obtain ⟨t402, A5, H⟩ := H
 try dsimp only at H
 by_cases c6 : t402 = true
 ·subst c6
  rw [if_pos rfl] at H
  replace H := zi H
  obtain ⟨t403, A7, H⟩ := H
  try dsimp only at H
  replace H := zi H
  obtain ⟨t404, A8, H⟩ := H
  try dsimp only at H
  have HC9 := Aside0.mk H
  clear H
  go_enter Try.func63, Try.ntmps63
  go_upto_region 4 with (first | ((with_reducible refine zg 8 rfl ?_); refine z3 8 50 0 0 0 ?_; intro gb401 hg w10 BK401 hb; have GW401 := sg hg; replace HB := bs hb; clear hb hg) | ((with_reducible refine zf 82 rfl ?_); refine g1 (some 14) Try.func82 #[.int .i64 a3] ?_; (with_reducible refine (impl_isLevel.calls a3 true _ A5.out).mono ?_); rintro e w' ⟨rfl, ⟨nd, rfl⟩⟩; refine ⟨_, rfl, ?_⟩) | ((with_reducible refine zf 50 rfl ?_); refine g1 (some 19) Try.func50 #[.int .i64 a0, .int .i64 a1] ?_; (with_reducible refine (impl_valuation.calls k a0 a1 t403 _ A7.out).mono ?_); rintro e w' ⟨rfl, ⟨nd, rfl⟩⟩; refine ⟨_, rfl, ?_⟩) | ((with_reducible refine zf 50 rfl ?_); refine g1 (some 22) Try.func50 #[.int .i64 a0, .int .i64 a2] ?_; (with_reducible refine (impl_valuation.calls k a0 a2 t404 _ A8.out).mono ?_); rintro e w' ⟨rfl, ⟨nd, rfl⟩⟩; refine ⟨_, rfl, ?_⟩))
  (try simp only [Act.put, zq, zr, zt])
  go_cut [24] (fun v24 wc => ∃ (kq : Nat) (x24_8 : Bool), v24 = .bool x24_8 ∧ Aside0 (impl_ballAt.j0 kq a0 a1 a2 a3 (wrap64 (t403 - t404)) x24_8 = some (r1, r2, r3, r4)) ∧ Aside0 (kq ≤ k) ∧ Aside0 (wc.heap[gb401]? = some (.cells #[.int .i64 0, .int .i64 0, .int .i64 0] 50 (0, 0))) ∧ Aside0 (Below w.heap.size w wc))
  case first =>
   have H := HC9.out
   clear HC9
   replace H := ii H
   rcases H with ⟨c11, H⟩ | ⟨c11, H⟩
   ·obtain ⟨c11b0, c11b1⟩ := zz c11
    clear c11
    (first | rw [c11b0] | (simp only [i64_w, i32_w]; rw [c11b0]) | skip)
    have H' := Aside0.mk H
    clear H
    go_wp2
    go_meet
    case rel => exact ⟨_, (true), (by first | rfl | (simp; done) | (simp [*]; done)), H', ⟨by first | omega | exact Nat.le_refl _⟩, ⟨be BK401⟩, ⟨bl⟩⟩
   ·obtain ⟨c11b0, c11b1⟩ := zy c11
    (first | rw [c11b0] | (simp only [i64_w, i32_w]; rw [c11b0]) | skip)
    have H' := Aside0.mk H
    clear H
    go_wp2
    go_meet
    case rel => exact ⟨_, (decide ((wrap64 (t403 - t404)) ≥ a3)), (by first | rfl | (simp; done) | (simp [*]; done)), H', ⟨by first | omega | exact Nat.le_refl _⟩, ⟨be BK401⟩, ⟨bl⟩⟩
  case rest =>
   clear HC9
   obtain ⟨kq, x24_8, rfl, HA, HJ8, BK401, HB⟩ := hcut
   cases kq with
   | zero => exact absurd HA.out (by simp [impl_ballAt.j0])
   | succ kj8 =>
    have H := HA.out
    clear HA
    simp only [impl_ballAt.j0] at H
    by_cases c12 : x24_8 = true
    ·subst c12
     rw [if_pos rfl] at H
     simp only [Option.some.injEq, Prod.mk.injEq] at H
     obtain ⟨rfl, rfl, rfl, rfl⟩ := H
     obtain ⟨hcz13_0, hcz13_1, hcz13_2, hfz13_0, hfz13_1, hfz13_2⟩ := cq3 BK401
     go_wp2
     refine bodyPost_ret (results_ct rfl _ _ gb401 50 #[.int .i64 a3, .int .i64 0, .int .i64 0] (0, 0) _ rfl (bp) Try.underlying50 rfl (by kernel_rfl)) rfl ?_
     exact ⟨er, bl⟩
    ·replace c12 := Bool.eq_false_iff.mpr c12
     subst c12
     have H1 : (if (wrap64 (t403 - t404)) < (-6) then (some (0, 0, 0, false)) else ((impl_power.f kj8 a0 (wrap64 (a3 + 6))).bind fun t405 => ((impl_unit.f kj8 a0 a1).bind fun t406 => ((impl_unit.f kj8 a0 a2).bind fun t407 => ((impl_inverse.f kj8 t407 t405).bind fun t408 => ((impl_times.f kj8 t406 t408 t405).bind fun t409 => ((impl_power.f kj8 a0 (wrap64 ((wrap64 (t403 - t404)) + 6))).bind fun t410 => ((impl_times.f kj8 t409 t410 t405).bind fun t411 => ((impl_ofMark.f kj8 a0 a3 t411).bind fun bt412 => (some (bt412.1, bt412.2.1, bt412.2.2.1, bt412.2.2.2))))))))))) = some (r1, r2, r3, r4) := by rw [if_neg (show ¬ (false = true) by decide)] at H; exact H
     clear H
     have H := H1
     clear H1
     replace H := ii H
     rcases H with ⟨c14, H⟩ | ⟨c14, H⟩
     ·have c14b0 := decide_eq_true c14
      clear c14
      simp only [Option.some.injEq, Prod.mk.injEq] at H
      obtain ⟨rfl, rfl, rfl, rfl⟩ := H
      obtain ⟨hcz15_0, hcz15_1, hcz15_2, hfz15_0, hfz15_1, hfz15_2⟩ := cq3 BK401
      go_wp2
      refine bodyPost_ret (results_ct rfl _ _ gb401 50 #[.int .i64 0, .int .i64 0, .int .i64 0] (0, 0) _ rfl (bp) Try.underlying50 rfl (by kernel_rfl)) rfl ?_
      exact ⟨er, bl⟩
     ·have c14b0 := decide_eq_false c14
      clear c14
      replace H := zi H
      obtain ⟨t405, A16, H⟩ := H
      try dsimp only at H
      replace H := zi H
      obtain ⟨t406, A17, H⟩ := H
      try dsimp only at H
      replace H := zi H
      obtain ⟨t407, A18, H⟩ := H
      try dsimp only at H
      replace H := zi H
      obtain ⟨t408, A19, H⟩ := H
      try dsimp only at H
      replace H := zi H
      obtain ⟨t409, A20, H⟩ := H
      try dsimp only at H
      replace H := zi H
      obtain ⟨t410, A21, H⟩ := H
      try dsimp only at H
      replace H := zi H
      obtain ⟨t411, A22, H⟩ := H
      try dsimp only at H
      replace H := zi H
      obtain ⟨⟨t412, t413, t414, t415⟩, A23, H⟩ := H
      try dsimp only at H
      simp only [Option.some.injEq, Prod.mk.injEq] at H
      obtain ⟨rfl, rfl, rfl, rfl⟩ := H
      go_wp2_with (first | ((with_reducible refine zf 37 rfl ?_); refine g1 (some 41) Try.func37 #[.int .i64 a0, .int .i64 (wrap64 (a3 + 6))] ?_; (with_reducible refine (impl_power.calls kj8 a0 (wrap64 (a3 + 6)) t405 _ A16.out).mono ?_); rintro e w' ⟨rfl, ⟨nd, rfl⟩⟩; refine ⟨_, rfl, ?_⟩; (try (rw [drewN_self wc]; generalize hq_ : World.drewN wc _ = wc; have n0_ : Aside0 (wc.heap[gb401]? = some (.cells #[.int .i64 0, .int .i64 0, .int .i64 0] 50 (0, 0))) := ⟨by rw [← hq_]; exact (be BK401)⟩; have n1_ : Aside0 (Below w.heap.size w wc) := ⟨by rw [← hq_]; exact (bl)⟩; clear BK401 HB hq_; have BK401 := n0_; have HB := n1_; clear n0_ n1_))) | ((with_reducible refine zf 53 rfl ?_); refine g1 (some 44) Try.func53 #[.int .i64 a0, .int .i64 a1] ?_; (with_reducible refine (impl_unit.calls kj8 a0 a1 t406 _ A17.out).mono ?_); rintro e w' ⟨rfl, ⟨nd, rfl⟩⟩; refine ⟨_, rfl, ?_⟩; (try (rw [drewN_self wc]; generalize hq_ : World.drewN wc _ = wc; have n0_ : Aside0 (wc.heap[gb401]? = some (.cells #[.int .i64 0, .int .i64 0, .int .i64 0] 50 (0, 0))) := ⟨by rw [← hq_]; exact (be BK401)⟩; have n1_ : Aside0 (Below w.heap.size w wc) := ⟨by rw [← hq_]; exact (bl)⟩; clear BK401 HB hq_; have BK401 := n0_; have HB := n1_; clear n0_ n1_))) | ((with_reducible refine zf 53 rfl ?_); refine g1 (some 47) Try.func53 #[.int .i64 a0, .int .i64 a2] ?_; (with_reducible refine (impl_unit.calls kj8 a0 a2 t407 _ A18.out).mono ?_); rintro e w' ⟨rfl, ⟨nd, rfl⟩⟩; refine ⟨_, rfl, ?_⟩; (try (rw [drewN_self wc]; generalize hq_ : World.drewN wc _ = wc; have n0_ : Aside0 (wc.heap[gb401]? = some (.cells #[.int .i64 0, .int .i64 0, .int .i64 0] 50 (0, 0))) := ⟨by rw [← hq_]; exact (be BK401)⟩; have n1_ : Aside0 (Below w.heap.size w wc) := ⟨by rw [← hq_]; exact (bl)⟩; clear BK401 HB hq_; have BK401 := n0_; have HB := n1_; clear n0_ n1_))) | ((with_reducible refine zf 52 rfl ?_); refine g1 (some 49) Try.func52 #[.int .i64 t407, .int .i64 t405] ?_; (with_reducible refine (impl_inverse.calls kj8 t407 t405 t408 _ A19.out).mono ?_); rintro e w' ⟨rfl, ⟨nd, rfl⟩⟩; refine ⟨_, rfl, ?_⟩; (try (rw [drewN_self wc]; generalize hq_ : World.drewN wc _ = wc; have n0_ : Aside0 (wc.heap[gb401]? = some (.cells #[.int .i64 0, .int .i64 0, .int .i64 0] 50 (0, 0))) := ⟨by rw [← hq_]; exact (be BK401)⟩; have n1_ : Aside0 (Below w.heap.size w wc) := ⟨by rw [← hq_]; exact (bl)⟩; clear BK401 HB hq_; have BK401 := n0_; have HB := n1_; clear n0_ n1_))) | ((with_reducible refine zf 39 rfl ?_); refine g1 (some 51) Try.func39 #[.int .i64 t406, .int .i64 t408, .int .i64 t405] ?_; (with_reducible refine (impl_times.calls kj8 t406 t408 t405 t409 _ A20.out).mono ?_); rintro e w' ⟨rfl, ⟨nd, rfl⟩⟩; refine ⟨_, rfl, ?_⟩; (try (rw [drewN_self wc]; generalize hq_ : World.drewN wc _ = wc; have n0_ : Aside0 (wc.heap[gb401]? = some (.cells #[.int .i64 0, .int .i64 0, .int .i64 0] 50 (0, 0))) := ⟨by rw [← hq_]; exact (be BK401)⟩; have n1_ : Aside0 (Below w.heap.size w wc) := ⟨by rw [← hq_]; exact (bl)⟩; clear BK401 HB hq_; have BK401 := n0_; have HB := n1_; clear n0_ n1_))) | ((with_reducible refine zf 37 rfl ?_); refine g1 (some 58) Try.func37 #[.int .i64 a0, .int .i64 (wrap64 ((wrap64 (t403 - t404)) + 6))] ?_; (with_reducible refine (impl_power.calls kj8 a0 (wrap64 ((wrap64 (t403 - t404)) + 6)) t410 _ A21.out).mono ?_); rintro e w' ⟨rfl, ⟨nd, rfl⟩⟩; refine ⟨_, rfl, ?_⟩; (try (rw [drewN_self wc]; generalize hq_ : World.drewN wc _ = wc; have n0_ : Aside0 (wc.heap[gb401]? = some (.cells #[.int .i64 0, .int .i64 0, .int .i64 0] 50 (0, 0))) := ⟨by rw [← hq_]; exact (be BK401)⟩; have n1_ : Aside0 (Below w.heap.size w wc) := ⟨by rw [← hq_]; exact (bl)⟩; clear BK401 HB hq_; have BK401 := n0_; have HB := n1_; clear n0_ n1_))) | ((with_reducible refine zf 39 rfl ?_); refine g1 (some 60) Try.func39 #[.int .i64 t409, .int .i64 t410, .int .i64 t405] ?_; (with_reducible refine (impl_times.calls kj8 t409 t410 t405 t411 _ A22.out).mono ?_); rintro e w' ⟨rfl, ⟨nd, rfl⟩⟩; refine ⟨_, rfl, ?_⟩; (try (rw [drewN_self wc]; generalize hq_ : World.drewN wc _ = wc; have n0_ : Aside0 (wc.heap[gb401]? = some (.cells #[.int .i64 0, .int .i64 0, .int .i64 0] 50 (0, 0))) := ⟨by rw [← hq_]; exact (be BK401)⟩; have n1_ : Aside0 (Below w.heap.size w wc) := ⟨by rw [← hq_]; exact (bl)⟩; clear BK401 HB hq_; have BK401 := n0_; have HB := n1_; clear n0_ n1_))) | ((with_reducible refine zf 83 rfl ?_); refine g1 (some 61) Try.func83 #[.int .i64 a0, .int .i64 a3, .int .i64 t411] ?_; (with_reducible refine (impl_ofMark.calls kj8 a0 a3 t411 t412 t413 t414 t415 _ A23.out).mono ?_); rintro e w24 ⟨rfl, hb⟩; refine ⟨_, rfl, ?_⟩; replace BK401 := bb BK401 hb; replace HB := bs hb; (try clear hb); obtain ⟨hcz25_0, hcz25_1, hcz25_2, hfz25_0, hfz25_1, hfz25_2⟩ := cq3 BK401))
      refine bodyPost_ret (results_ct rfl _ _ gb401 50 #[.int .i64 t412, .int .i64 t413, .int .i64 t414] (0, 0) _ rfl (bp) Try.underlying50 rfl (by kernel_rfl)) rfl ?_
      exact ⟨er, bl⟩
 ·replace c6 := Bool.eq_false_iff.mpr c6
  subst c6
  have H1 : (some (0, 0, 0, false)) = some (r1, r2, r3, r4) := by rw [if_neg (show ¬ (false = true) by decide)] at H; exact H
  clear H
  have H := H1
  clear H1
  simp only [Option.some.injEq, Prod.mk.injEq] at H
  obtain ⟨rfl, rfl, rfl, rfl⟩ := H
  go_enter Try.func63, Try.ntmps63
  go_wp2_with (first | ((with_reducible refine zg 8 rfl ?_); refine z3 8 50 0 0 0 ?_; intro gb401 hg w26 BK401 hb; have GW401 := sg hg; replace HB := bs hb; clear hb hg) | ((with_reducible refine zf 82 rfl ?_); refine g1 (some 14) Try.func82 #[.int .i64 a3] ?_; (with_reducible refine (impl_isLevel.calls a3 false _ A5.out).mono ?_); rintro e w' ⟨rfl, ⟨nd, rfl⟩⟩; refine ⟨_, rfl, ?_⟩; (try (rw [drewN_self w26]; generalize hq_ : World.drewN w26 _ = w26; have n0_ : Aside0 (w26.heap[gb401]? = some (.cells #[.int .i64 0, .int .i64 0, .int .i64 0] 50 (0, 0))) := ⟨by rw [← hq_]; exact (be BK401)⟩; have n1_ : Aside0 (Below w.heap.size w w26) := ⟨by rw [← hq_]; exact (bl)⟩; clear BK401 HB hq_; have BK401 := n0_; have HB := n1_; clear n0_ n1_)); obtain ⟨hcz27_0, hcz27_1, hcz27_2, hfz27_0, hfz27_1, hfz27_2⟩ := cq3 BK401))
  refine bodyPost_ret (results_ct rfl _ _ gb401 50 #[.int .i64 0, .int .i64 0, .int .i64 0] (0, 0) _ rfl (bp) Try.underlying50 rfl (by kernel_rfl)) rfl ?_
  exact ⟨er, bl⟩

/-! ### impl_BallOfLattice: function 24 -/
def impl_BallOfLattice.f (k : Nat) (a0 : Int) (a1_0 : Int) (a1_1 : Int) (a1_2 : Int) : Option (Int × Int × Int × Int) := (impl_IsLattice.f k a0 a1_0 a1_1 a1_2).bind fun t418 => (if t418 = true then ((impl_power.f k a0 a1_2).bind fun t419 => ((impl_ballAt.f k a0 a1_1 t419 (wrap64 (a1_0 - a1_2))).bind fun bt420 => ((impl_fitted.f bt420.1 bt420.2.1 bt420.2.2.1 bt420.2.2.2).bind fun bt424 => (some (bt424.1, bt424.2.1, bt424.2.2.1, bt424.2.2.2))))) else (some (0, 0, 0, 1)))
def impl_BallOfLattice.T3 : Bool × List (List Nat × List Nat) := (true, [([], []), ([], []), ([1], [1]), ([], []), ([], []), ([4], [4]), ([3, 5], [3, 5]), ([], []), ([7], [7]), ([], []), ([9], [9]), ([8, 10], [8, 10]), ([0, 2, 6, 11, 6], [0, 2, 6, 11]), ([12], [12]), ([12], [12]), ([13, 14, 12], [13, 14]), ([15], [15]), ([15], [15]), ([16, 15, 0, 1, 2, 3, 4, 5, 6, 7, 8, 9, 10, 11, 12, 13, 14, 15, 16, 17], [16]), ([17, 18, 0, 1, 2, 3, 4, 5, 6, 7, 8, 9, 10, 11, 12, 13, 14, 15, 16, 17, 18], [17])])
def impl_BallOfLattice.B3 : List Nat := [0, 0, 2, 0, 0, 16, 56, 0, 128, 0, 512, 1920, 4095, 8191, 8191, 32767, 65535, 65535, 262143, 524287]
theorem impl_BallOfLattice.tab3 : rtab .any (opsOf Try.f24 3) = impl_BallOfLattice.T3 := by kernel_rfl
theorem impl_BallOfLattice.bits3 : waitsOk impl_BallOfLattice.T3.2 impl_BallOfLattice.B3 = true := by kernel_rfl
set_option maxHeartbeats 8000000 in
set_option maxRecDepth 100000 in
theorem impl_BallOfLattice.calls (k : Nat) (a0 : Int) (a1_0 : Int) (a1_1 : Int) (a1_2 : Int) (r1 : Int) (r2 : Int) (r3 : Int) (r4 : Int) (w : World) (h : impl_BallOfLattice.f k a0 a1_0 a1_1 a1_2 = some (r1, r2, r3, r4)) :
  Calls Try.prog 24 #[.int .i64 a0, .agg #[.int .i64 a1_0, .int .i64 a1_1, .int .i64 a1_2]] w fun e w' => e = .returned (.tuple #[.agg #[.int .i64 r1, .int .i64 r2, .int .i64 r3], .int .i64 r4]) ∧ Below w.heap.size w w' := by
 have hu27 := Try.underlying27
 have hu50 := Try.underlying50
 have HB := Aside0.mk (Below.refl w.heap.size w)
 unfold impl_BallOfLattice.f at h
 have H := h
 clear h
 replace H := zi H
 obtain ⟨t418, A3, H⟩ := H
 try dsimp only at H
 by_cases c4 : t418 = true
 ·subst c4
  rw [if_pos rfl] at H
  replace H := zi H
  obtain ⟨t419, A5, H⟩ := H
  try dsimp only at H
  replace H := zi H
  obtain ⟨⟨t420, t421, t422, t423⟩, A6, H⟩ := H
  try dsimp only at H
  replace H := zi H
  obtain ⟨⟨t424, t425, t426, t427⟩, A7, H⟩ := H
  try dsimp only at H
  simp only [Option.some.injEq, Prod.mk.injEq] at H
  obtain ⟨rfl, rfl, rfl, rfl⟩ := H
  go_enter Try.func24, Try.ntmps24
  try go_wp2_with (first | ((with_reducible refine zg 3 rfl ?_); refine z3 3 27 a1_0 a1_1 a1_2 ?_; intro gb416 hg w8 BK416 hb; have GW416 := sg hg; replace HB := bs hb; clear hb hg) | ((with_reducible refine zg 4 rfl ?_); refine z3 4 50 0 0 0 ?_; intro gb417 hg w9 BK417 hb; have GW417 := sg hg; have NB416_417 := nl hg BK416; replace BK416 := bb BK416 hb; replace HB := bs hb; clear hb hg; obtain ⟨hnb10, hnc10⟩ := zn NB416_417; obtain ⟨hcz11_0, hcz11_1, hcz11_2, hfz11_0, hfz11_1, hfz11_2⟩ := cq3 BK416) | ((with_reducible refine zf 18 rfl ?_); refine g1 (some 8) Try.func18 #[.int .i64 a0, .agg #[.int .i64 a1_0, .int .i64 a1_1, .int .i64 a1_2]] ?_; (with_reducible refine (impl_IsLattice.calls k a0 a1_0 a1_1 a1_2 true _ A3.out).mono ?_); rintro e w12 ⟨rfl, hb⟩; refine ⟨_, rfl, ?_⟩; replace BK416 := bb BK416 hb; replace BK417 := bb BK417 hb; replace HB := bs hb; (try clear hb)))
  replace BK416 := Aside0.mk (blk_drew BK416.out)
  replace BK417 := Aside0.mk (blk_drew BK417.out)
  replace HB := Aside0.mk (below_drew1 HB.out)
  refine sw 20 (fun w' => w'.cell? ⟨gb416, 0, none⟩ = some (.int .i64 a1_0) ∧ w'.cell? ⟨gb416, 1, none⟩ = some (.int .i64 a1_1) ∧ w'.cell? ⟨gb416, 2, none⟩ = some (.int .i64 a1_2)) impl_BallOfLattice.tab3 impl_BallOfLattice.bits3 (e3 BK416) (fun hHeld HT_ HW_ => ?_)
  generalize w12.drew = w13 at BK416 BK417 HB hHeld ⊢
  refine pu 0 (some 11) (tA 20 1) HT_ ?_
  refine pu 1 (some 12) (tA 20 3) HT_ ?_
  refine pu 3 (some 14) (tA 20 11) HT_ ?_
  refine pu 4 (some 15) (tA 20 27) HT_ ?_
  refine pu 7 (some 18) (tA 20 155) HT_ ?_
  refine pu 9 (some 20) (tA 20 667) HT_ ?_
  refine tk3 2 (some 13) (tA 20 671) HT_ HW_ hHeld ?_
  refine tk3 5 (some 16) (tA 20 703) HT_ HW_ hHeld ?_
  refine tk3 8 (some 19) (tA 20 959) HT_ HW_ hHeld ?_
  refine tk3 10 (some 21) (tA 20 1983) HT_ HW_ hHeld ?_
  refine pu 11 (some 22) (tA 20 4031) HT_ ?_
  refine o1 6 (some 17) (tA 20 4095) HT_ (fun K hK => ?_)
  refine gs Try.func37 #[.int .i64 a0, .int .i64 a1_2] ?_
  with_reducible refine (impl_power.calls k a0 a1_2 t419 _ A5.out).mono ?_
  rintro e w' ⟨rfl, ⟨nd, rfl⟩⟩
  refine ⟨_, rfl, ?_⟩
  refine hK.out _ _ (e3 BK416) (fun hHeld => ?_)
  clear hK K
  refine nm (some 17) ?_
  refine o1 12 (some 23) (tA 20 8191) HT_ (fun K hK => ?_)
  refine gs Try.func63 #[.int .i64 a0, .int .i64 a1_1, .int .i64 t419, .int .i64 (wrap64 (a1_0 - a1_2))] ?_
  with_reducible refine (impl_ballAt.calls k a0 a1_1 t419 (wrap64 (a1_0 - a1_2)) t420 t421 t422 t423 _ A6.out).mono ?_
  rintro e w14 ⟨rfl, hb⟩
  refine ⟨_, rfl, ?_⟩
  replace BK416 := bb BK416 hb
  replace BK417 := bb BK417 hb
  replace HB := bs hb
  (try clear hb)
  (try clear hb2)
  (try clear hk)
  (try clear hi)
  refine hK.out _ _ (e3 BK416) (fun hHeld => ?_)
  clear hK K
  refine nm (some 23) ?_
  refine pu 13 (some 24) (tA 20 16383) HT_ ?_
  refine pu 14 (some 25) (tA 20 32767) HT_ ?_
  refine o1 15 (some 26) (tA 20 65535) HT_ (fun K hK => ?_)
  refine gs Try.func62 #[.agg #[.int .i64 t420, .int .i64 t421, .int .i64 t422], .bool t423] ?_
  with_reducible refine (impl_fitted.calls t420 t421 t422 t423 t424 t425 t426 t427 _ A7.out).mono ?_
  rintro e w15 ⟨rfl, hb⟩
  refine ⟨_, rfl, ?_⟩
  replace BK416 := bb BK416 hb
  replace BK417 := bb BK417 hb
  replace HB := bs hb
  (try clear hb)
  (try clear hb2)
  (try clear hk)
  (try clear hi)
  refine hK.out _ _ (e3 BK416) (fun hHeld => ?_)
  clear hK K
  refine nm (some 26) ?_
  refine pu 16 (some 27) (tA 20 131071) HT_ ?_
  refine pu 17 (some 28) (tA 20 262143) HT_ ?_
  refine o1 18 none (tA 20 524287) HT_ (fun K hK => ?_)
  have hs16 : w15.cell? ⟨gb417, 0, none⟩ = some (.int .i64 0) := (blk_cell BK417.out 0).trans rfl
  have hfs16 := blk_frozen BK417.out 0
  obtain ⟨hns16_0, hms16_0⟩ := zn NB416_417
  have hs17 : w15.cell? ⟨gb417, 1, none⟩ = some (.int .i64 0) := (blk_cell BK417.out 1).trans rfl
  have hfs17 := blk_frozen BK417.out 1
  obtain ⟨hns17_0, hms17_0⟩ := zn NB416_417
  have hs18 : w15.cell? ⟨gb417, 2, none⟩ = some (.int .i64 0) := (blk_cell BK417.out 2).trans rfl
  have hfs18 := blk_frozen BK417.out 2
  obtain ⟨hns18_0, hms18_0⟩ := zn NB416_417
  refine skip_ (w1 := ?_) (by rfl) rfl ?_ ?_
  rotate_left
  ·go_simp
   rfl
  refine hK.out _ _ (m3 hHeld (fun e => cf gb417 NB416_417 (cf gb417 NB416_417 (cf gb417 NB416_417 e)))) (fun hHeld => ?_)
  clear hK K
  refine pu 19 (some 5) (tA 20 1048575) HT_ ?_
  refine done_ (done_of HT_.out (by kernel_rfl)) ?_
  try go_wp2
  refine bodyPost_ret (results_ct rfl _ _ gb417 50 #[.int .i64 t424, .int .i64 t425, .int .i64 t426] (0, 0) _ rfl (bp) Try.underlying50 rfl (by kernel_rfl)) rfl ?_
  exact ⟨er, bl⟩
 ·replace c4 := Bool.eq_false_iff.mpr c4
  subst c4
  have H1 : (some (0, 0, 0, 1)) = some (r1, r2, r3, r4) := by rw [if_neg (show ¬ (false = true) by decide)] at H; exact H
  clear H
  have H := H1
  clear H1
  simp only [Option.some.injEq, Prod.mk.injEq] at H
  obtain ⟨rfl, rfl, rfl, rfl⟩ := H
  go_enter Try.func24, Try.ntmps24
  go_wp2_with (first | ((with_reducible refine zg 3 rfl ?_); refine z3 3 27 a1_0 a1_1 a1_2 ?_; intro gb416 hg w19 BK416 hb; have GW416 := sg hg; replace HB := bs hb; clear hb hg) | ((with_reducible refine zg 4 rfl ?_); refine z3 4 50 0 0 0 ?_; intro gb417 hg w20 BK417 hb; have GW417 := sg hg; have NB416_417 := nl hg BK416; replace BK416 := bb BK416 hb; replace HB := bs hb; clear hb hg; obtain ⟨hnb21, hnc21⟩ := zn NB416_417; obtain ⟨hcz22_0, hcz22_1, hcz22_2, hfz22_0, hfz22_1, hfz22_2⟩ := cq3 BK416) | ((with_reducible refine zf 18 rfl ?_); refine g1 (some 8) Try.func18 #[.int .i64 a0, .agg #[.int .i64 a1_0, .int .i64 a1_1, .int .i64 a1_2]] ?_; (with_reducible refine (impl_IsLattice.calls k a0 a1_0 a1_1 a1_2 false _ A3.out).mono ?_); rintro e w23 ⟨rfl, hb⟩; refine ⟨_, rfl, ?_⟩; replace BK416 := bb BK416 hb; replace BK417 := bb BK417 hb; replace HB := bs hb; (try clear hb); obtain ⟨hcz24_0, hcz24_1, hcz24_2, hfz24_0, hfz24_1, hfz24_2⟩ := cq3 BK417))
  refine bodyPost_ret (results_ct rfl _ _ gb417 50 #[.int .i64 0, .int .i64 0, .int .i64 0] (0, 0) _ rfl (bp) Try.underlying50 rfl (by kernel_rfl)) rfl ?_
  exact ⟨er, bl⟩

/-! ### impl_IsBall: function 64 -/
def impl_IsBall.j0 : Nat → Int → Bool → Int → Int → Int → Option (Bool)
 | 0, _, _, _, _, _ => none
 | k + 1, x0, x24, x429000, x429001, x429002 => if x24 = true then (some false) else (if (wrap64 (x429000 + x429002)) ≤ 0 then (if x429001 = 0 then (some (x429002 == 0)) else (some false)) else (if x429001 ≥ 0 then ((impl_power.f k x0 (wrap64 (x429000 + x429002))).bind fun t431 => (if x429001 < t431 then (if x429002 = 0 then (some true) else (if x0 = 0 then (none) else (some ((Int.tmod x429001 x0) != 0)))) else (some false))) else (some false)))
def impl_IsBall.f (k : Nat) (a0 : Int) (a1_0 : Int) (a1_1 : Int) (a1_2 : Int) : Option (Bool) := (impl_isPrime.f a0).bind fun t429 => (if t429 = true then ((impl_isLevel.f a1_0).bind fun t430 => (if t430 = true then (if a1_2 < 0 then (impl_IsBall.j0 k a0 true a1_0 a1_1 a1_2) else (impl_IsBall.j0 k a0 (decide (a1_2 > 6)) a1_0 a1_1 a1_2)) else (impl_IsBall.j0 k a0 true a1_0 a1_1 a1_2))) else (impl_IsBall.j0 k a0 true a1_0 a1_1 a1_2))
set_option maxHeartbeats 8000000 in
set_option maxRecDepth 100000 in
theorem impl_IsBall.calls (k : Nat) (a0 : Int) (a1_0 : Int) (a1_1 : Int) (a1_2 : Int) (r : Bool) (w : World) (h : impl_IsBall.f k a0 a1_0 a1_1 a1_2 = some r) :
  Calls Try.prog 64 #[.int .i64 a0, .agg #[.int .i64 a1_0, .int .i64 a1_1, .int .i64 a1_2]] w fun e w' => e = .returned (.bool r) ∧ Below w.heap.size w w' := by
 have hu50 := Try.underlying50
 have HB := Aside0.mk (Below.refl w.heap.size w)
 unfold impl_IsBall.f at h
 have H := h
 clear h
 have HC3 := Aside0.mk H
 clear H
 go_enter Try.func64, Try.ntmps64
 go_upto_region 1 with (first | ((with_reducible refine zg 3 rfl ?_); refine z3 3 50 a1_0 a1_1 a1_2 ?_; intro gb428 hg w4 BK428 hb; have GW428 := sg hg; replace HB := bs hb; clear hb hg))
 (try simp only [Act.put, zq, zr, zt])
 go_cut [24] (fun v24 wc => ∃ (kq : Nat) (x24_2 : Bool), v24 = .bool x24_2 ∧ Aside0 (impl_IsBall.j0 kq a0 x24_2 a1_0 a1_1 a1_2 = some r) ∧ Aside0 (kq ≤ k) ∧ Aside0 (wc.heap[gb428]? = some (.cells #[.int .i64 a1_0, .int .i64 a1_1, .int .i64 a1_2] 50 (0, 0))) ∧ Aside0 (Below w.heap.size w wc))
 case first =>
  have H := HC3.out
  clear HC3
  replace H := zi H
  obtain ⟨t429, A5, H⟩ := H
  try dsimp only at H
  by_cases c6 : t429 = true
  ·subst c6
   rw [if_pos rfl] at H
   replace H := zi H
   obtain ⟨t430, A7, H⟩ := H
   try dsimp only at H
   by_cases c8 : t430 = true
   ·subst c8
    rw [if_pos rfl] at H
    replace H := ii H
    rcases H with ⟨c9, H⟩ | ⟨c9, H⟩
    ·have c9b0 := decide_eq_true c9
     clear c9
     (first | rw [c9b0] | (simp only [i64_w, i32_w]; rw [c9b0]) | skip)
     have H' := Aside0.mk H
     clear H
     go_wp2_with (first | (go_at_call 48; (with_reducible refine (impl_isPrime.calls a0 true _ A5.out).mono ?_); rintro e w' ⟨rfl, ⟨nd, rfl⟩⟩; (try first | exact zd | exact ze); obtain ⟨hcz10_0, hcz10_1, hcz10_2, hfz10_0, hfz10_1, hfz10_2⟩ := cq3 BK428) | (go_at_call 82; (with_reducible refine (impl_isLevel.calls a1_0 true _ A7.out).mono ?_); rintro e w' ⟨rfl, ⟨nd, rfl⟩⟩; (try first | exact zd | exact ze)))
     go_meet
     case rel => exact ⟨_, (true), (by first | rfl | (simp; done) | (simp [*]; done)), H', ⟨by first | omega | exact Nat.le_refl _⟩, ⟨be BK428⟩, ⟨bl⟩⟩
    ·have c9b0 := decide_eq_false c9
     clear c9
     (first | rw [c9b0] | (simp only [i64_w, i32_w]; rw [c9b0]) | skip)
     have H' := Aside0.mk H
     clear H
     go_wp2_with (first | (go_at_call 48; (with_reducible refine (impl_isPrime.calls a0 true _ A5.out).mono ?_); rintro e w' ⟨rfl, ⟨nd, rfl⟩⟩; (try first | exact zd | exact ze); obtain ⟨hcz11_0, hcz11_1, hcz11_2, hfz11_0, hfz11_1, hfz11_2⟩ := cq3 BK428) | (go_at_call 82; (with_reducible refine (impl_isLevel.calls a1_0 true _ A7.out).mono ?_); rintro e w' ⟨rfl, ⟨nd, rfl⟩⟩; (try first | exact zd | exact ze)))
     go_meet
     case rel => exact ⟨_, (decide (a1_2 > 6)), (by first | rfl | (simp; done) | (simp [*]; done)), H', ⟨by first | omega | exact Nat.le_refl _⟩, ⟨be BK428⟩, ⟨bl⟩⟩
   ·replace c8 := Bool.eq_false_iff.mpr c8
    subst c8
    have H1 : (impl_IsBall.j0 k a0 true a1_0 a1_1 a1_2) = some r := by rw [if_neg (show ¬ (false = true) by decide)] at H; exact H
    clear H
    have H := H1
    clear H1
    have H' := Aside0.mk H
    clear H
    go_wp2_with (first | (go_at_call 48; (with_reducible refine (impl_isPrime.calls a0 true _ A5.out).mono ?_); rintro e w' ⟨rfl, ⟨nd, rfl⟩⟩; (try first | exact zd | exact ze); obtain ⟨hcz12_0, hcz12_1, hcz12_2, hfz12_0, hfz12_1, hfz12_2⟩ := cq3 BK428) | (go_at_call 82; (with_reducible refine (impl_isLevel.calls a1_0 false _ A7.out).mono ?_); rintro e w' ⟨rfl, ⟨nd, rfl⟩⟩; (try first | exact zd | exact ze)))
    go_meet
    case rel => exact ⟨_, (true), (by first | rfl | (simp; done) | (simp [*]; done)), H', ⟨by first | omega | exact Nat.le_refl _⟩, ⟨be BK428⟩, ⟨bl⟩⟩
  ·replace c6 := Bool.eq_false_iff.mpr c6
   subst c6
   have H1 : (impl_IsBall.j0 k a0 true a1_0 a1_1 a1_2) = some r := by rw [if_neg (show ¬ (false = true) by decide)] at H; exact H
   clear H
   have H := H1
   clear H1
   have H' := Aside0.mk H
   clear H
   go_wp2_with (first | (go_at_call 48; (with_reducible refine (impl_isPrime.calls a0 false _ A5.out).mono ?_); rintro e w' ⟨rfl, ⟨nd, rfl⟩⟩; (try first | exact zd | exact ze)))
   go_meet
   case rel => exact ⟨_, (true), (by first | rfl | (simp; done) | (simp [*]; done)), H', ⟨by first | omega | exact Nat.le_refl _⟩, ⟨be BK428⟩, ⟨bl⟩⟩
 case rest =>
  clear HC3
  obtain ⟨kq, x24_2, rfl, HA, HJ2, BK428, HB⟩ := hcut
  cases kq with
  | zero => exact absurd HA.out (by simp [impl_IsBall.j0])
  | succ kj2 =>
   have H := HA.out
   clear HA
   simp only [impl_IsBall.j0] at H
   by_cases c13 : x24_2 = true
   ·subst c13
    rw [if_pos rfl] at H
    obtain rfl := Option.some.inj H
    go_wp2
    go_ret
    exact ⟨er, bl⟩
   ·replace c13 := Bool.eq_false_iff.mpr c13
    subst c13
    have H1 : (if (wrap64 (a1_0 + a1_2)) ≤ 0 then (if a1_1 = 0 then (some (a1_2 == 0)) else (some false)) else (if a1_1 ≥ 0 then ((impl_power.f kj2 a0 (wrap64 (a1_0 + a1_2))).bind fun t431 => (if a1_1 < t431 then (if a1_2 = 0 then (some true) else (if a0 = 0 then (none) else (some ((Int.tmod a1_1 a0) != 0)))) else (some false))) else (some false))) = some r := by rw [if_neg (show ¬ (false = true) by decide)] at H; exact H
    clear H
    have H := H1
    clear H1
    replace H := ii H
    rcases H with ⟨c14, H⟩ | ⟨c14, H⟩
    ·have c14b0 := decide_eq_true c14
     clear c14
     replace H := ii H
     rcases H with ⟨c15, H⟩ | ⟨c15, H⟩
     ·obtain ⟨c15b0, c15b1⟩ := zz c15
      clear c15
      obtain rfl := Option.some.inj H
      obtain ⟨hcz16_0, hcz16_1, hcz16_2, hfz16_0, hfz16_1, hfz16_2⟩ := cq3 BK428
      go_wp2
      go_ret
      exact ⟨er, bl⟩
     ·obtain ⟨c15b0, c15b1⟩ := zy c15
      obtain rfl := Option.some.inj H
      obtain ⟨hcz17_0, hcz17_1, hcz17_2, hfz17_0, hfz17_1, hfz17_2⟩ := cq3 BK428
      go_wp2
      go_ret
      exact ⟨er, bl⟩
    ·have c14b0 := decide_eq_false c14
     clear c14
     replace H := ii H
     rcases H with ⟨c18, H⟩ | ⟨c18, H⟩
     ·have c18b0 := decide_eq_true c18
      clear c18
      replace H := zi H
      obtain ⟨t431, A19, H⟩ := H
      try dsimp only at H
      replace H := ii H
      rcases H with ⟨c20, H⟩ | ⟨c20, H⟩
      ·have c20b0 := decide_eq_true c20
       clear c20
       replace H := ii H
       rcases H with ⟨c21, H⟩ | ⟨c21, H⟩
       ·obtain ⟨c21b0, c21b1⟩ := zz c21
        clear c21
        obtain rfl := Option.some.inj H
        obtain ⟨hcz22_0, hcz22_1, hcz22_2, hfz22_0, hfz22_1, hfz22_2⟩ := cq3 BK428
        go_wp2_with (first | (go_at_call 37; (with_reducible refine (impl_power.calls kj2 a0 (wrap64 (a1_0 + a1_2)) t431 _ A19.out).mono ?_); rintro e w' ⟨rfl, ⟨nd, rfl⟩⟩; (try first | exact zd | exact ze)))
        repeat (go_quiet (first | (go_at_call 37; (with_reducible refine (impl_power.calls kj2 a0 (wrap64 (a1_0 + a1_2)) t431 _ A19.out).mono ?_); rintro e w' ⟨rfl, ⟨nd, rfl⟩⟩; (try first | exact zd | exact ze))); try go_wp2_with (first | (go_at_call 37; (with_reducible refine (impl_power.calls kj2 a0 (wrap64 (a1_0 + a1_2)) t431 _ A19.out).mono ?_); rintro e w' ⟨rfl, ⟨nd, rfl⟩⟩; (try first | exact zd | exact ze))))
        go_ret
        exact ⟨er, bl⟩
       ·obtain ⟨c21b0, c21b1⟩ := zy c21
        replace H := ii H
        rcases H with ⟨c23, H⟩ | ⟨c23, H⟩
        ·exact absurd H (by simp)
        ·obtain ⟨c23b0, c23b1⟩ := zy c23
         obtain rfl := Option.some.inj H
         obtain ⟨hcz24_0, hcz24_1, hcz24_2, hfz24_0, hfz24_1, hfz24_2⟩ := cq3 BK428
         go_wp2_with (first | (go_at_call 37; (with_reducible refine (impl_power.calls kj2 a0 (wrap64 (a1_0 + a1_2)) t431 _ A19.out).mono ?_); rintro e w' ⟨rfl, ⟨nd, rfl⟩⟩; (try first | exact zd | exact ze)))
         repeat (go_quiet (first | (go_at_call 37; (with_reducible refine (impl_power.calls kj2 a0 (wrap64 (a1_0 + a1_2)) t431 _ A19.out).mono ?_); rintro e w' ⟨rfl, ⟨nd, rfl⟩⟩; (try first | exact zd | exact ze))); try go_wp2_with (first | (go_at_call 37; (with_reducible refine (impl_power.calls kj2 a0 (wrap64 (a1_0 + a1_2)) t431 _ A19.out).mono ?_); rintro e w' ⟨rfl, ⟨nd, rfl⟩⟩; (try first | exact zd | exact ze))))
         go_ret
         exact ⟨er, bl⟩
      ·have c20b0 := decide_eq_false c20
       clear c20
       obtain rfl := Option.some.inj H
       obtain ⟨hcz25_0, hcz25_1, hcz25_2, hfz25_0, hfz25_1, hfz25_2⟩ := cq3 BK428
       go_wp2_with (first | (go_at_call 37; (with_reducible refine (impl_power.calls kj2 a0 (wrap64 (a1_0 + a1_2)) t431 _ A19.out).mono ?_); rintro e w' ⟨rfl, ⟨nd, rfl⟩⟩; (try first | exact zd | exact ze)))
       repeat (go_quiet (first | (go_at_call 37; (with_reducible refine (impl_power.calls kj2 a0 (wrap64 (a1_0 + a1_2)) t431 _ A19.out).mono ?_); rintro e w' ⟨rfl, ⟨nd, rfl⟩⟩; (try first | exact zd | exact ze))); try go_wp2_with (first | (go_at_call 37; (with_reducible refine (impl_power.calls kj2 a0 (wrap64 (a1_0 + a1_2)) t431 _ A19.out).mono ?_); rintro e w' ⟨rfl, ⟨nd, rfl⟩⟩; (try first | exact zd | exact ze))))
       go_ret
       exact ⟨er, bl⟩
     ·have c18b0 := decide_eq_false c18
      clear c18
      obtain rfl := Option.some.inj H
      obtain ⟨hcz26_0, hcz26_1, hcz26_2, hfz26_0, hfz26_1, hfz26_2⟩ := cq3 BK428
      go_wp2
      repeat (go_quiet (fail); try go_wp2)
      go_ret
      exact ⟨er, bl⟩

end Go.Proofs.Ytkfodnlogflcpaa.PFnLattices
