-- Printed by the kit's print and repaired by a program of this session.
import Derived.Test.YtpmepopagapeiaaPFnBallsx0
import Derived.Test.YtpmepopagapeiaaPFnBallsx3
import Derived.Test.YtpmepopagapeiaaPFnBallsx5
import Derived.Test.YtpmepopagapeiaaPFnBallsx6
namespace Go.Proofs.Ytpmepopagapeiaa.PFnBalls
open Go.RowKit Go.Proofs.YtpmepopagapeiaaW.PrintWords Go.Proofs.YtpmepopagapeiaaW.PrintLast Go.Proofs.YtpmepopagapeiaaW.PrintMore
attribute [local go_sem] max2_int min2_int max_two min_two max_three min_three max_four min_four
set_option linter.unusedVariables false
set_option linter.unusedSimpArgs false

/-! ### impl_times: function 150 -/
def impl_times.f (k : Nat) (a0 : Int) (a1 : Int) (a2 : Int) : Option (Int) := (impl_mod.f a0 a2).bind fun t226 => ((impl_mod.f a1 a2).bind fun t227 => ((bits_Mul64.f (IntKind.u64.wrap (t226)) (IntKind.u64.wrap (t227))).bind fun bt228 => (if (IntKind.u64.wrap (a2)) = 0 then (none) else ((bits_Div64.f k (Int.tmod bt228.1 (IntKind.u64.wrap (a2))) bt228.2 (IntKind.u64.wrap (a2))).bind fun bt230 => (some (wrap64 (bt230.2)))))))
set_option maxHeartbeats 8000000 in
set_option maxRecDepth 100000 in
theorem impl_times.calls (k : Nat) (a0 : Int) (a1 : Int) (a2 : Int) (r : Int) (w : World) (h : impl_times.f k a0 a1 a2 = some r) :
  Calls Try.prog 150 #[.int .i64 a0, .int .i64 a1, .int .i64 a2] w fun e w' => e = .returned (.int .i64 r) ∧ Drawn0 w w' := by
 unfold impl_times.f at h
 have H := h
 clear h
 replace H := zi H
 obtain ⟨t226, A4, H⟩ := H
 try dsimp only at H
 replace H := zi H
 obtain ⟨t227, A5, H⟩ := H
 try dsimp only at H
 replace H := zi H
 obtain ⟨⟨t228, t229⟩, A6, H⟩ := H
 try dsimp only at H
 replace H := ii H
 rcases H with ⟨c7, H⟩ | ⟨c7, H⟩
 ·exact absurd H (by simp)
 ·obtain ⟨c7b0, c7b1⟩ := zy c7
  replace H := zi H
  obtain ⟨⟨t230, t231⟩, A8, H⟩ := H
  try dsimp only at H
  obtain rfl := Option.some.inj H
  go_enter Try.func150, Try.ntmps150
  go_wp2_with (first | ((with_reducible refine zf 108 rfl ?_); refine g1 (some 14) Try.func108 #[.int .i64 a0, .int .i64 a2] ?_; (with_reducible refine (impl_mod.calls a0 a2 t226 _ A4.out).mono ?_); rintro e w' ⟨rfl, ⟨nd, rfl⟩⟩; refine ⟨_, rfl, ?_⟩) | ((with_reducible refine zf 108 rfl ?_); refine g1 (some 18) Try.func108 #[.int .i64 a1, .int .i64 a2] ?_; (with_reducible refine (impl_mod.calls a1 a2 t227 _ A5.out).mono ?_); rintro e w' ⟨rfl, ⟨nd, rfl⟩⟩; refine ⟨_, rfl, ?_⟩) | ((with_reducible refine zf 154 rfl ?_); refine g1 (some 20) Try.func154 #[.int .u64 (IntKind.u64.wrap (t226)), .int .u64 (IntKind.u64.wrap (t227))] ?_; (with_reducible refine (bits_Mul64.calls (IntKind.u64.wrap (t226)) (IntKind.u64.wrap (t227)) t228 t229 _ A6.out).mono ?_); rintro e w' ⟨rfl, ⟨nd, rfl⟩⟩; refine ⟨_, rfl, ?_⟩) | ((with_reducible refine zf 155 rfl ?_); refine g1 (some 31) Try.func155 #[.int .u64 (Int.tmod t228 (IntKind.u64.wrap (a2))), .int .u64 t229, .int .u64 (IntKind.u64.wrap (a2))] ?_; (with_reducible refine (bits_Div64.calls k (Int.tmod t228 (IntKind.u64.wrap (a2))) t229 (IntKind.u64.wrap (a2)) t230 t231 _ A8.out).mono ?_); rintro e w' ⟨rfl, ⟨nd, rfl⟩⟩; refine ⟨_, rfl, ?_⟩))
  go_ret
  exact zx

/-! ### impl_unit: function 151 -/
def impl_unit.f (k : Nat) (a0 : Int) (a1 : Int) : Option (Int) := (impl_valuation.f k a0 a1).bind fun t232 => ((impl_power.f k a0 t232).bind fun t233 => (if t233 = 0 then (none) else (some (wrap64 (Int.tdiv a1 t233)))))
set_option maxHeartbeats 8000000 in
set_option maxRecDepth 100000 in
theorem impl_unit.calls (k : Nat) (a0 : Int) (a1 : Int) (r : Int) (w : World) (h : impl_unit.f k a0 a1 = some r) :
  Calls Try.prog 151 #[.int .i64 a0, .int .i64 a1] w fun e w' => e = .returned (.int .i64 r) ∧ Drawn0 w w' := by
 unfold impl_unit.f at h
 have H := h
 clear h
 replace H := zi H
 obtain ⟨t232, A3, H⟩ := H
 try dsimp only at H
 replace H := zi H
 obtain ⟨t233, A4, H⟩ := H
 try dsimp only at H
 replace H := ii H
 rcases H with ⟨c5, H⟩ | ⟨c5, H⟩
 ·exact absurd H (by simp)
 ·obtain ⟨c5b0, c5b1⟩ := zy c5
  obtain rfl := Option.some.inj H
  go_enter Try.func151, Try.ntmps151
  go_wp2_with (first | ((with_reducible refine zf 137 rfl ?_); refine g1 (some 9) Try.func137 #[.int .i64 a0, .int .i64 a1] ?_; (with_reducible refine (impl_valuation.calls k a0 a1 t232 _ A3.out).mono ?_); rintro e w' ⟨rfl, ⟨nd, rfl⟩⟩; refine ⟨_, rfl, ?_⟩) | ((with_reducible refine zf 103 rfl ?_); refine g1 (some 10) Try.func103 #[.int .i64 a0, .int .i64 t232] ?_; (with_reducible refine (impl_power.calls k a0 t232 t233 _ A4.out).mono ?_); rintro e w' ⟨rfl, ⟨nd, rfl⟩⟩; refine ⟨_, rfl, ?_⟩))
  go_ret
  exact zx

/-! ### impl_inverse: function 152 -/
def impl_inverse.l0 : Nat → Int → Int → Int → Int → Int → Option (Int)
 | 0, _, _, _, _, _ => none
 | k + 1, x1, x5, x6, x7, x8 => if x6 = 0 then ((impl_mod.f x7 x1).bind fun t235 => (some t235)) else (impl_inverse.l0 k x1 x6 (wrap64 (x5 - (wrap64 ((wrap64 (Int.tdiv x5 x6)) * x6)))) x8 (wrap64 (x7 - (wrap64 ((wrap64 (Int.tdiv x5 x6)) * x8)))))
def impl_inverse.f (k : Nat) (a0 : Int) (a1 : Int) : Option (Int) := (impl_mod.f a0 a1).bind fun t234 => (impl_inverse.l0 k a1 t234 a1 1 0)
set_option maxHeartbeats 8000000 in
set_option maxRecDepth 100000 in
theorem impl_inverse.calls (k : Nat) (a0 : Int) (a1 : Int) (r : Int) (w : World) (h : impl_inverse.f k a0 a1 = some r) :
  Calls Try.prog 152 #[.int .i64 a0, .int .i64 a1] w fun e w' => e = .returned (.int .i64 r) ∧ Drawn0 w w' := by
 unfold impl_inverse.f at h
 have H := h
 clear h
 replace H := zi H
 obtain ⟨t234, A3, H⟩ := H
 try dsimp only at H
 have H' := Aside0.mk H
 clear H
 go_enter Try.func152, Try.ntmps152
 go_wp2_with (first | ((with_reducible refine zf 108 rfl ?_); refine g1 (some 12) Try.func108 #[.int .i64 a0, .int .i64 a1] ?_; (with_reducible refine (impl_mod.calls a0 a1 t234 _ A3.out).mono ?_); rintro e w' ⟨rfl, ⟨nd, rfl⟩⟩; refine ⟨_, rfl, ?_⟩))
 go_loopg [5, 6, 7, 8] k (fun kq v5 v6 v7 v8 w' => ∃ (x5_1 : Int) (x6_1 : Int) (x7_1 : Int) (x8_1 : Int), v5 = .int .i64 x5_1 ∧ v6 = .int .i64 x6_1 ∧ v7 = .int .i64 x7_1 ∧ v8 = .int .i64 x8_1 ∧ Aside0 (impl_inverse.l0 kq a1 x5_1 x6_1 x7_1 x8_1 = some r) ∧ Aside0 (kq ≤ k) ∧ Drawn0 w w')
 case atStart => exact ⟨(t234), (a1), (1), (0), (by first | rfl | (simp; done) | (simp [*]; done)), (by first | rfl | (simp; done) | (simp [*]; done)), (by first | rfl | (simp; done) | (simp [*]; done)), (by first | rfl | (simp; done) | (simp [*]; done)), H', ⟨Nat.le_refl _⟩, by repeat (first | exact Drawn0.refl _ | apply Drawn0.step)⟩
 case round =>
  clear H'
  obtain ⟨x5_1, x6_1, x7_1, x8_1, rfl, rfl, rfl, rfl, HA, HK1, ⟨m1, rfl⟩⟩ := hrel
  cases gk with
  | zero => exact absurd HA.out (by simp [impl_inverse.l0])
  | succ k1 =>
   have H := HA.out
   clear HA
   simp only [impl_inverse.l0] at H
   replace H := ii H
   rcases H with ⟨c4, H⟩ | ⟨c4, H⟩
   ·obtain ⟨c4b0, c4b1⟩ := zz c4
    clear c4
    replace H := zi H
    obtain ⟨t235, A5, H⟩ := H
    try dsimp only at H
    obtain rfl := Option.some.inj H
    go_wp2_with (first | ((with_reducible refine zf 108 rfl ?_); refine g1 (some 33) Try.func108 #[.int .i64 x7_1, .int .i64 a1] ?_; (with_reducible refine (impl_mod.calls x7_1 a1 t235 _ A5.out).mono ?_); rintro e w' ⟨rfl, ⟨nd, rfl⟩⟩; refine ⟨_, rfl, ?_⟩))
    go_ret
    exact zx
   ·obtain ⟨c4b0, c4b1⟩ := zy c4
    have H' := Aside0.mk H
    clear H
    go_wp2
    go_roundg k1
    case measure => have := HK1.out; omega
    case rel => exact ⟨(x6_1), (wrap64 (x5_1 - (wrap64 ((wrap64 (Int.tdiv x5_1 x6_1)) * x6_1)))), (x8_1), (wrap64 (x7_1 - (wrap64 ((wrap64 (Int.tdiv x5_1 x6_1)) * x8_1)))), (by first | rfl | (simp; done) | (simp [*]; done)), (by first | rfl | (simp; done) | (simp [*]; done)), (by first | rfl | (simp; done) | (simp [*]; done)), (by first | rfl | (simp; done) | (simp [*]; done)), H', ⟨by have := HK1.out; omega⟩, by repeat (first | exact Drawn0.refl _ | apply Drawn0.step)⟩

/-! ### impl_ballAt: function 128 -/
def impl_ballAt.j0 : Nat → Int → Int → Int → Int → Int → Bool → Option (Int × Int × Int × Bool)
 | 0, _, _, _, _, _, _ => none
 | k + 1, x0, x1, x2, x3, x10, x24 => if x24 = true then (some (x3, 0, 0, true)) else (if x10 < (-6) then (some (0, 0, 0, false)) else ((impl_power.f k x0 (wrap64 (x3 + 6))).bind fun t240 => ((impl_unit.f k x0 x1).bind fun t241 => ((impl_unit.f k x0 x2).bind fun t242 => ((impl_inverse.f k t242 t240).bind fun t243 => ((impl_times.f k t241 t243 t240).bind fun t244 => ((impl_power.f k x0 (wrap64 (x10 + 6))).bind fun t245 => ((impl_times.f k t244 t245 t240).bind fun t246 => ((impl_ofMark.f k x0 x3 t246).bind fun bt247 => (some (bt247.1, bt247.2.1, bt247.2.2.1, bt247.2.2.2)))))))))))
def impl_ballAt.f (k : Nat) (a0 : Int) (a1 : Int) (a2 : Int) (a3 : Int) : Option (Int × Int × Int × Bool) := (impl_isLevel.f a3).bind fun t237 => (if t237 = true then ((impl_valuation.f k a0 a1).bind fun t238 => ((impl_valuation.f k a0 a2).bind fun t239 => (if a1 = 0 then (impl_ballAt.j0 k a0 a1 a2 a3 (wrap64 (t238 - t239)) true) else (impl_ballAt.j0 k a0 a1 a2 a3 (wrap64 (t238 - t239)) (decide ((wrap64 (t238 - t239)) ≥ a3)))))) else (some (0, 0, 0, false)))
set_option maxHeartbeats 8000000 in
set_option maxRecDepth 100000 in
theorem impl_ballAt.calls (k : Nat) (a0 : Int) (a1 : Int) (a2 : Int) (a3 : Int) (r1 : Int) (r2 : Int) (r3 : Int) (r4 : Bool) (w : World) (h : impl_ballAt.f k a0 a1 a2 a3 = some (r1, r2, r3, r4)) :
  Calls Try.prog 128 #[.int .i64 a0, .int .i64 a1, .int .i64 a2, .int .i64 a3] w fun e w' => e = .returned (.tuple #[.agg #[.int .i64 r1, .int .i64 r2, .int .i64 r3], .bool r4]) ∧ Below w.heap.size w w' := by
 have hu27 := Try.underlying27
 have HB := Aside0.mk (Below.refl w.heap.size w)
 unfold impl_ballAt.f at h
 have H := h
 clear h
 replace H := zi H
 obtain ⟨t237, A5, H⟩ := H
 try dsimp only at H
 by_cases c6 : t237 = true
 ·subst c6
  rw [if_pos rfl] at H
  replace H := zi H
  obtain ⟨t238, A7, H⟩ := H
  try dsimp only at H
  replace H := zi H
  obtain ⟨t239, A8, H⟩ := H
  try dsimp only at H
  have HC9 := Aside0.mk H
  clear H
  go_enter Try.func128, Try.ntmps128
  go_upto_region 4 with (first | ((with_reducible refine zg 8 rfl ?_); refine z3 8 27 0 0 0 ?_; intro gb236 hg w10 BK236 hb; have GW236 := sg hg; replace HB := bs hb; clear hb hg) | ((with_reducible refine zf 102 rfl ?_); refine g1 (some 14) Try.func102 #[.int .i64 a3] ?_; (with_reducible refine (impl_isLevel.calls a3 true _ A5.out).mono ?_); rintro e w' ⟨rfl, ⟨nd, rfl⟩⟩; refine ⟨_, rfl, ?_⟩) | ((with_reducible refine zf 137 rfl ?_); refine g1 (some 19) Try.func137 #[.int .i64 a0, .int .i64 a1] ?_; (with_reducible refine (impl_valuation.calls k a0 a1 t238 _ A7.out).mono ?_); rintro e w' ⟨rfl, ⟨nd, rfl⟩⟩; refine ⟨_, rfl, ?_⟩) | ((with_reducible refine zf 137 rfl ?_); refine g1 (some 22) Try.func137 #[.int .i64 a0, .int .i64 a2] ?_; (with_reducible refine (impl_valuation.calls k a0 a2 t239 _ A8.out).mono ?_); rintro e w' ⟨rfl, ⟨nd, rfl⟩⟩; refine ⟨_, rfl, ?_⟩))
  (try simp only [Act.put, zq, zr, zt])
  go_cut [24] (fun v24 wc => ∃ (kq : Nat) (x24_8 : Bool), v24 = .bool x24_8 ∧ Aside0 (impl_ballAt.j0 kq a0 a1 a2 a3 (wrap64 (t238 - t239)) x24_8 = some (r1, r2, r3, r4)) ∧ Aside0 (kq ≤ k) ∧ Aside0 (wc.heap[gb236]? = some (.cells #[.int .i64 0, .int .i64 0, .int .i64 0] 27 (0, 0))) ∧ Aside0 (Below w.heap.size w wc))
  case first =>
   have H := HC9.out
   clear HC9
   replace H := ii H
   rcases H with ⟨c11, H⟩ | ⟨c11, H⟩
   ·obtain ⟨c11b0, c11b1⟩ := zz c11
    clear c11
    (first | rw [c11b0] | (simp only [i64_w, i32_w]; rw [c11b0]) | skip)
    have H' := Aside0.mk H
    clear H
    go_wp2
    go_meet
    case rel => exact ⟨_, (true), (by first | rfl | (simp; done) | (simp [*]; done)), H', ⟨by first | omega | exact Nat.le_refl _⟩, ⟨be BK236⟩, ⟨bl⟩⟩
   ·obtain ⟨c11b0, c11b1⟩ := zy c11
    (first | rw [c11b0] | (simp only [i64_w, i32_w]; rw [c11b0]) | skip)
    have H' := Aside0.mk H
    clear H
    go_wp2
    go_meet
    case rel => exact ⟨_, (decide ((wrap64 (t238 - t239)) ≥ a3)), (by first | rfl | (simp; done) | (simp [*]; done)), H', ⟨by first | omega | exact Nat.le_refl _⟩, ⟨be BK236⟩, ⟨bl⟩⟩
  case rest =>
   clear HC9
   obtain ⟨kq, x24_8, rfl, HA, HJ8, BK236, HB⟩ := hcut
   cases kq with
   | zero => exact absurd HA.out (by simp [impl_ballAt.j0])
   | succ kj8 =>
    have H := HA.out
    clear HA
    simp only [impl_ballAt.j0] at H
    by_cases c12 : x24_8 = true
    ·subst c12
     rw [if_pos rfl] at H
     simp only [Option.some.injEq, Prod.mk.injEq] at H
     obtain ⟨rfl, rfl, rfl, rfl⟩ := H
     obtain ⟨hcz13_0, hcz13_1, hcz13_2, hfz13_0, hfz13_1, hfz13_2⟩ := cq3 BK236
     go_wp2
     refine bodyPost_ret (results_ct rfl _ _ gb236 27 #[.int .i64 a3, .int .i64 0, .int .i64 0] (0, 0) _ rfl (bp) Try.underlying27 rfl (by kernel_rfl)) rfl ?_
     exact ⟨er, bl⟩
    ·replace c12 := Bool.eq_false_iff.mpr c12
     subst c12
     have H1 : (if (wrap64 (t238 - t239)) < (-6) then (some (0, 0, 0, false)) else ((impl_power.f kj8 a0 (wrap64 (a3 + 6))).bind fun t240 => ((impl_unit.f kj8 a0 a1).bind fun t241 => ((impl_unit.f kj8 a0 a2).bind fun t242 => ((impl_inverse.f kj8 t242 t240).bind fun t243 => ((impl_times.f kj8 t241 t243 t240).bind fun t244 => ((impl_power.f kj8 a0 (wrap64 ((wrap64 (t238 - t239)) + 6))).bind fun t245 => ((impl_times.f kj8 t244 t245 t240).bind fun t246 => ((impl_ofMark.f kj8 a0 a3 t246).bind fun bt247 => (some (bt247.1, bt247.2.1, bt247.2.2.1, bt247.2.2.2))))))))))) = some (r1, r2, r3, r4) := by rw [if_neg (show ¬ (false = true) by decide)] at H; exact H
     clear H
     have H := H1
     clear H1
     replace H := ii H
     rcases H with ⟨c14, H⟩ | ⟨c14, H⟩
     ·have c14b0 := decide_eq_true c14
      clear c14
      simp only [Option.some.injEq, Prod.mk.injEq] at H
      obtain ⟨rfl, rfl, rfl, rfl⟩ := H
      obtain ⟨hcz15_0, hcz15_1, hcz15_2, hfz15_0, hfz15_1, hfz15_2⟩ := cq3 BK236
      go_wp2
      refine bodyPost_ret (results_ct rfl _ _ gb236 27 #[.int .i64 0, .int .i64 0, .int .i64 0] (0, 0) _ rfl (bp) Try.underlying27 rfl (by kernel_rfl)) rfl ?_
      exact ⟨er, bl⟩
     ·have c14b0 := decide_eq_false c14
      clear c14
      replace H := zi H
      obtain ⟨t240, A16, H⟩ := H
      try dsimp only at H
      replace H := zi H
      obtain ⟨t241, A17, H⟩ := H
      try dsimp only at H
      replace H := zi H
      obtain ⟨t242, A18, H⟩ := H
      try dsimp only at H
      replace H := zi H
      obtain ⟨t243, A19, H⟩ := H
      try dsimp only at H
      replace H := zi H
      obtain ⟨t244, A20, H⟩ := H
      try dsimp only at H
      replace H := zi H
      obtain ⟨t245, A21, H⟩ := H
      try dsimp only at H
      replace H := zi H
      obtain ⟨t246, A22, H⟩ := H
      try dsimp only at H
      replace H := zi H
      obtain ⟨⟨t247, t248, t249, t250⟩, A23, H⟩ := H
      try dsimp only at H
      simp only [Option.some.injEq, Prod.mk.injEq] at H
      obtain ⟨rfl, rfl, rfl, rfl⟩ := H
      go_wp2_with (first | ((with_reducible refine zf 103 rfl ?_); refine g1 (some 41) Try.func103 #[.int .i64 a0, .int .i64 (wrap64 (a3 + 6))] ?_; (with_reducible refine (impl_power.calls kj8 a0 (wrap64 (a3 + 6)) t240 _ A16.out).mono ?_); rintro e w' ⟨rfl, ⟨nd, rfl⟩⟩; refine ⟨_, rfl, ?_⟩; (try (rw [drewN_self wc]; generalize hq_ : World.drewN wc _ = wc; have n0_ : Aside0 (wc.heap[gb236]? = some (.cells #[.int .i64 0, .int .i64 0, .int .i64 0] 27 (0, 0))) := ⟨by rw [← hq_]; exact (be BK236)⟩; have n1_ : Aside0 (Below w.heap.size w wc) := ⟨by rw [← hq_]; exact (bl)⟩; clear BK236 HB hq_; have BK236 := n0_; have HB := n1_; clear n0_ n1_))) | ((with_reducible refine zf 151 rfl ?_); refine g1 (some 44) Try.func151 #[.int .i64 a0, .int .i64 a1] ?_; (with_reducible refine (impl_unit.calls kj8 a0 a1 t241 _ A17.out).mono ?_); rintro e w' ⟨rfl, ⟨nd, rfl⟩⟩; refine ⟨_, rfl, ?_⟩; (try (rw [drewN_self wc]; generalize hq_ : World.drewN wc _ = wc; have n0_ : Aside0 (wc.heap[gb236]? = some (.cells #[.int .i64 0, .int .i64 0, .int .i64 0] 27 (0, 0))) := ⟨by rw [← hq_]; exact (be BK236)⟩; have n1_ : Aside0 (Below w.heap.size w wc) := ⟨by rw [← hq_]; exact (bl)⟩; clear BK236 HB hq_; have BK236 := n0_; have HB := n1_; clear n0_ n1_))) | ((with_reducible refine zf 151 rfl ?_); refine g1 (some 47) Try.func151 #[.int .i64 a0, .int .i64 a2] ?_; (with_reducible refine (impl_unit.calls kj8 a0 a2 t242 _ A18.out).mono ?_); rintro e w' ⟨rfl, ⟨nd, rfl⟩⟩; refine ⟨_, rfl, ?_⟩; (try (rw [drewN_self wc]; generalize hq_ : World.drewN wc _ = wc; have n0_ : Aside0 (wc.heap[gb236]? = some (.cells #[.int .i64 0, .int .i64 0, .int .i64 0] 27 (0, 0))) := ⟨by rw [← hq_]; exact (be BK236)⟩; have n1_ : Aside0 (Below w.heap.size w wc) := ⟨by rw [← hq_]; exact (bl)⟩; clear BK236 HB hq_; have BK236 := n0_; have HB := n1_; clear n0_ n1_))) | ((with_reducible refine zf 152 rfl ?_); refine g1 (some 49) Try.func152 #[.int .i64 t242, .int .i64 t240] ?_; (with_reducible refine (impl_inverse.calls kj8 t242 t240 t243 _ A19.out).mono ?_); rintro e w' ⟨rfl, ⟨nd, rfl⟩⟩; refine ⟨_, rfl, ?_⟩; (try (rw [drewN_self wc]; generalize hq_ : World.drewN wc _ = wc; have n0_ : Aside0 (wc.heap[gb236]? = some (.cells #[.int .i64 0, .int .i64 0, .int .i64 0] 27 (0, 0))) := ⟨by rw [← hq_]; exact (be BK236)⟩; have n1_ : Aside0 (Below w.heap.size w wc) := ⟨by rw [← hq_]; exact (bl)⟩; clear BK236 HB hq_; have BK236 := n0_; have HB := n1_; clear n0_ n1_))) | ((with_reducible refine zf 150 rfl ?_); refine g1 (some 51) Try.func150 #[.int .i64 t241, .int .i64 t243, .int .i64 t240] ?_; (with_reducible refine (impl_times.calls kj8 t241 t243 t240 t244 _ A20.out).mono ?_); rintro e w' ⟨rfl, ⟨nd, rfl⟩⟩; refine ⟨_, rfl, ?_⟩; (try (rw [drewN_self wc]; generalize hq_ : World.drewN wc _ = wc; have n0_ : Aside0 (wc.heap[gb236]? = some (.cells #[.int .i64 0, .int .i64 0, .int .i64 0] 27 (0, 0))) := ⟨by rw [← hq_]; exact (be BK236)⟩; have n1_ : Aside0 (Below w.heap.size w wc) := ⟨by rw [← hq_]; exact (bl)⟩; clear BK236 HB hq_; have BK236 := n0_; have HB := n1_; clear n0_ n1_))) | ((with_reducible refine zf 103 rfl ?_); refine g1 (some 58) Try.func103 #[.int .i64 a0, .int .i64 (wrap64 ((wrap64 (t238 - t239)) + 6))] ?_; (with_reducible refine (impl_power.calls kj8 a0 (wrap64 ((wrap64 (t238 - t239)) + 6)) t245 _ A21.out).mono ?_); rintro e w' ⟨rfl, ⟨nd, rfl⟩⟩; refine ⟨_, rfl, ?_⟩; (try (rw [drewN_self wc]; generalize hq_ : World.drewN wc _ = wc; have n0_ : Aside0 (wc.heap[gb236]? = some (.cells #[.int .i64 0, .int .i64 0, .int .i64 0] 27 (0, 0))) := ⟨by rw [← hq_]; exact (be BK236)⟩; have n1_ : Aside0 (Below w.heap.size w wc) := ⟨by rw [← hq_]; exact (bl)⟩; clear BK236 HB hq_; have BK236 := n0_; have HB := n1_; clear n0_ n1_))) | ((with_reducible refine zf 150 rfl ?_); refine g1 (some 60) Try.func150 #[.int .i64 t244, .int .i64 t245, .int .i64 t240] ?_; (with_reducible refine (impl_times.calls kj8 t244 t245 t240 t246 _ A22.out).mono ?_); rintro e w' ⟨rfl, ⟨nd, rfl⟩⟩; refine ⟨_, rfl, ?_⟩; (try (rw [drewN_self wc]; generalize hq_ : World.drewN wc _ = wc; have n0_ : Aside0 (wc.heap[gb236]? = some (.cells #[.int .i64 0, .int .i64 0, .int .i64 0] 27 (0, 0))) := ⟨by rw [← hq_]; exact (be BK236)⟩; have n1_ : Aside0 (Below w.heap.size w wc) := ⟨by rw [← hq_]; exact (bl)⟩; clear BK236 HB hq_; have BK236 := n0_; have HB := n1_; clear n0_ n1_))) | ((with_reducible refine zf 94 rfl ?_); refine g1 (some 61) Try.func94 #[.int .i64 a0, .int .i64 a3, .int .i64 t246] ?_; (with_reducible refine (impl_ofMark.calls kj8 a0 a3 t246 t247 t248 t249 t250 _ A23.out).mono ?_); rintro e w24 ⟨rfl, hb⟩; refine ⟨_, rfl, ?_⟩; replace BK236 := bb BK236 hb; replace HB := bs hb; (try clear hb); obtain ⟨hcz25_0, hcz25_1, hcz25_2, hfz25_0, hfz25_1, hfz25_2⟩ := cq3 BK236))
      refine bodyPost_ret (results_ct rfl _ _ gb236 27 #[.int .i64 t247, .int .i64 t248, .int .i64 t249] (0, 0) _ rfl (bp) Try.underlying27 rfl (by kernel_rfl)) rfl ?_
      exact ⟨er, bl⟩
 ·replace c6 := Bool.eq_false_iff.mpr c6
  subst c6
  have H1 : (some (0, 0, 0, false)) = some (r1, r2, r3, r4) := by rw [if_neg (show ¬ (false = true) by decide)] at H; exact H
  clear H
  have H := H1
  clear H1
  simp only [Option.some.injEq, Prod.mk.injEq] at H
  obtain ⟨rfl, rfl, rfl, rfl⟩ := H
  go_enter Try.func128, Try.ntmps128
  go_wp2_with (first | ((with_reducible refine zg 8 rfl ?_); refine z3 8 27 0 0 0 ?_; intro gb236 hg w26 BK236 hb; have GW236 := sg hg; replace HB := bs hb; clear hb hg) | ((with_reducible refine zf 102 rfl ?_); refine g1 (some 14) Try.func102 #[.int .i64 a3] ?_; (with_reducible refine (impl_isLevel.calls a3 false _ A5.out).mono ?_); rintro e w' ⟨rfl, ⟨nd, rfl⟩⟩; refine ⟨_, rfl, ?_⟩; (try (rw [drewN_self w26]; generalize hq_ : World.drewN w26 _ = w26; have n0_ : Aside0 (w26.heap[gb236]? = some (.cells #[.int .i64 0, .int .i64 0, .int .i64 0] 27 (0, 0))) := ⟨by rw [← hq_]; exact (be BK236)⟩; have n1_ : Aside0 (Below w.heap.size w w26) := ⟨by rw [← hq_]; exact (bl)⟩; clear BK236 HB hq_; have BK236 := n0_; have HB := n1_; clear n0_ n1_)); obtain ⟨hcz27_0, hcz27_1, hcz27_2, hfz27_0, hfz27_1, hfz27_2⟩ := cq3 BK236))
  refine bodyPost_ret (results_ct rfl _ _ gb236 27 #[.int .i64 0, .int .i64 0, .int .i64 0] (0, 0) _ rfl (bp) Try.underlying27 rfl (by kernel_rfl)) rfl ?_
  exact ⟨er, bl⟩

/-! ### impl_BallOf: function 62 -/
def impl_BallOf.j0 : Nat → Int → Int → Int → Int → Bool → Option (Int × Int × Int × Int)
 | 0, _, _, _, _, _ => none
 | k + 1, x0, x1, x2, x3, x15 => if x15 = true then (some (0, 0, 0, 2)) else (if x2 = 0 then (some (0, 0, 0, 5)) else ((impl_ballAt.f k x0 x1 x2 x3).bind fun bt258 => ((impl_fitted.f bt258.1 bt258.2.1 bt258.2.2.1 bt258.2.2.2).bind fun bt262 => (some (bt262.1, bt262.2.1, bt262.2.2.1, bt262.2.2.2)))))
def impl_BallOf.f (k : Nat) (a0 : Int) (a1 : Int) (a2 : Int) (a3 : Int) : Option (Int × Int × Int × Int) := (impl_isPrime.f a0).bind fun t252 => (if t252 = true then ((impl_within.f k 100000000000000000 (([a1, a2] : List Int))).bind fun t256 => (if t256 = true then ((impl_isLevel.f a3).bind fun t257 => (impl_BallOf.j0 k a0 a1 a2 a3 (!t257))) else (impl_BallOf.j0 k a0 a1 a2 a3 true))) else (some (0, 0, 0, 1)))
set_option maxHeartbeats 8000000 in
set_option maxRecDepth 100000 in
theorem impl_BallOf.calls (k : Nat) (a0 : Int) (a1 : Int) (a2 : Int) (a3 : Int) (r1 : Int) (r2 : Int) (r3 : Int) (r4 : Int) (w : World) (h : impl_BallOf.f k a0 a1 a2 a3 = some (r1, r2, r3, r4)) :
  Calls Try.prog 62 #[.int .i64 a0, .int .i64 a1, .int .i64 a2, .int .i64 a3] w fun e w' => e = .returned (.tuple #[.agg #[.int .i64 r1, .int .i64 r2, .int .i64 r3], .int .i64 r4]) ∧ Below w.heap.size w w' := by
 have hu27 := Try.underlying27
 have HB := Aside0.mk (Below.refl w.heap.size w)
 unfold impl_BallOf.f at h
 have H := h
 clear h
 replace H := zi H
 obtain ⟨t252, A5, H⟩ := H
 try dsimp only at H
 by_cases c6 : t252 = true
 ·subst c6
  rw [if_pos rfl] at H
  have HC7 := Aside0.mk H
  clear H
  go_enter Try.func62, Try.ntmps62
  go_upto_region 3 with (first | ((with_reducible refine zg 8 rfl ?_); refine z3 8 27 0 0 0 ?_; intro gb251 hg w8 BK251 hb; have GW251 := sg hg; replace HB := bs hb; clear hb hg) | ((with_reducible refine zf 119 rfl ?_); refine g1 (some 12) Try.func119 #[.int .i64 a0] ?_; (with_reducible refine (impl_isPrime.calls a0 true _ A5.out).mono ?_); rintro e w' ⟨rfl, ⟨nd, rfl⟩⟩; refine ⟨_, rfl, ?_⟩))
  (try simp only [Act.put, zq, zr, zt])
  go_cut [15] (fun v15 wc => ∃ (kq : Nat) (x15_6 : Bool), v15 = .bool x15_6 ∧ Aside0 (impl_BallOf.j0 kq a0 a1 a2 a3 x15_6 = some (r1, r2, r3, r4)) ∧ Aside0 (kq ≤ k) ∧ Aside0 (wc.heap[gb251]? = some (.cells #[.int .i64 0, .int .i64 0, .int .i64 0] 27 (0, 0))) ∧ Aside0 (Below w.heap.size w wc))
  case first =>
   have H := HC7.out
   clear HC7
   obtain ⟨y253, hy253⟩ : ∃ y_ : List Int, y_ = (([a1, a2] : List Int)) := ⟨_, rfl⟩
   replace H : ((impl_within.f k 100000000000000000 y253).bind fun t256 => (if t256 = true then ((impl_isLevel.f a3).bind fun t257 => (impl_BallOf.j0 k a0 a1 a2 a3 (!t257))) else (impl_BallOf.j0 k a0 a1 a2 a3 true))) = some (r1, r2, r3, r4) := by first | exact hy253 ▸ H | exact H
   have Ny253 := Aside0.mk hy253
   clear hy253
   replace H := zi H
   obtain ⟨t256, A9, H⟩ := H
   try dsimp only at H
   by_cases c10 : t256 = true
   ·subst c10
    rw [if_pos rfl] at H
    replace H := zi H
    obtain ⟨t257, A11, H⟩ := H
    try dsimp only at H
    have H' := Aside0.mk H
    clear H
    go_wp2_with (first | ((with_reducible refine zg 18 rfl ?_); refine Kd.R_lit (Kd.int .i64) _ 2 ?hg (N := 18) ?hd (xs := ([a1, a2] : List Int)) (inner := [.int .i64 a1, .int .i64 a2]) (ok := fun _ => True) (okp := fun _ => True) ?hr ?hp (fun _ hk => hk) trivial (Below.refl _ _) (Nat.le_refl _) (by simp) ?_; (case hd => rfl); (case hg => rfl); (case hr => first | (go_simp; done) | (go_simp; rfl)); (case hp => exact (Reps.one (show Kd.M (Kd.int .i64) _ _ _ a1 [.int .i64 a1] from rfl) (Reps.one (show Kd.M (Kd.int .i64) _ _ _ a2 [.int .i64 a2] from rfl) (Reps.none _ _)))); intro v254 w12 ho13 hb hg_ hnew_; clear hg_ hnew_; (first | rw [← Ny253.out] at ho13 | (simp only [Int.reduceToNat] at ho13; rw [← Ny253.out] at ho13)); have HO255 := Aside0.mk (Kd.R_lower ho13 (below_size (bl))); replace BK251 := bb BK251 hb; replace HB := bs hb; clear hb ho13; obtain ⟨Ao14, co14, eo14⟩ := Kd.R_slice HO255.out; subst eo14) | ((with_reducible refine zf 127 rfl ?_); refine g1 (some 19) Try.func127 #[.int .i64 100000000000000000, .slice Ao14 y253.length co14] ?_; (with_reducible refine (impl_within.calls k 100000000000000000 _ _ y253 true _ ?side1 ?side2 A9.out).mono ?_); (case side1 => repeat (first | exact (Kd.R_reads' HO255.out).2.2 | (with_reducible refine Kd.C_alloc ?_ _) | (with_reducible refine Kd.C_drewN ?_ _) | (with_reducible refine Kd.C_drew ?_))); (case side2 => exact (Kd.R_reads' HO255.out).2.1); rintro e w' ⟨rfl, ⟨nd, rfl⟩⟩; refine ⟨_, rfl, ?_⟩) | (go_at_call 102; (with_reducible refine (impl_isLevel.calls a3 t257 _ A11.out).mono ?_); rintro e w' ⟨rfl, ⟨nd, rfl⟩⟩))
    go_meet
    case rel => exact ⟨_, (!t257), (by first | rfl | (simp; done) | (simp [*]; done)), H', ⟨by first | omega | exact Nat.le_refl _⟩, ⟨be BK251⟩, ⟨bl⟩⟩
   ·replace c10 := Bool.eq_false_iff.mpr c10
    subst c10
    have H1 : (impl_BallOf.j0 k a0 a1 a2 a3 true) = some (r1, r2, r3, r4) := by rw [if_neg (show ¬ (false = true) by decide)] at H; exact H
    clear H
    have H := H1
    clear H1
    have H' := Aside0.mk H
    clear H
    go_wp2_with (first | ((with_reducible refine zg 18 rfl ?_); refine Kd.R_lit (Kd.int .i64) _ 2 ?hg (N := 18) ?hd (xs := ([a1, a2] : List Int)) (inner := [.int .i64 a1, .int .i64 a2]) (ok := fun _ => True) (okp := fun _ => True) ?hr ?hp (fun _ hk => hk) trivial (Below.refl _ _) (Nat.le_refl _) (by simp) ?_; (case hd => rfl); (case hg => rfl); (case hr => first | (go_simp; done) | (go_simp; rfl)); (case hp => exact (Reps.one (show Kd.M (Kd.int .i64) _ _ _ a1 [.int .i64 a1] from rfl) (Reps.one (show Kd.M (Kd.int .i64) _ _ _ a2 [.int .i64 a2] from rfl) (Reps.none _ _)))); intro v254 w15 ho16 hb hg_ hnew_; clear hg_ hnew_; (first | rw [← Ny253.out] at ho16 | (simp only [Int.reduceToNat] at ho16; rw [← Ny253.out] at ho16)); have HO255 := Aside0.mk (Kd.R_lower ho16 (below_size (bl))); replace BK251 := bb BK251 hb; replace HB := bs hb; clear hb ho16; obtain ⟨Ao17, co17, eo17⟩ := Kd.R_slice HO255.out; subst eo17) | ((with_reducible refine zf 127 rfl ?_); refine g1 (some 19) Try.func127 #[.int .i64 100000000000000000, .slice Ao17 y253.length co17] ?_; (with_reducible refine (impl_within.calls k 100000000000000000 _ _ y253 false _ ?side1 ?side2 A9.out).mono ?_); (case side1 => repeat (first | exact (Kd.R_reads' HO255.out).2.2 | (with_reducible refine Kd.C_alloc ?_ _) | (with_reducible refine Kd.C_drewN ?_ _) | (with_reducible refine Kd.C_drew ?_))); (case side2 => exact (Kd.R_reads' HO255.out).2.1); rintro e w' ⟨rfl, ⟨nd, rfl⟩⟩; refine ⟨_, rfl, ?_⟩))
    go_meet
    case rel => exact ⟨_, (true), (by first | rfl | (simp; done) | (simp [*]; done)), H', ⟨by first | omega | exact Nat.le_refl _⟩, ⟨be BK251⟩, ⟨bl⟩⟩
  case rest =>
   clear HC7
   obtain ⟨kq, x15_6, rfl, HA, HJ6, BK251, HB⟩ := hcut
   cases kq with
   | zero => exact absurd HA.out (by simp [impl_BallOf.j0])
   | succ kj6 =>
    have H := HA.out
    clear HA
    simp only [impl_BallOf.j0] at H
    by_cases c18 : x15_6 = true
    ·subst c18
     rw [if_pos rfl] at H
     simp only [Option.some.injEq, Prod.mk.injEq] at H
     obtain ⟨rfl, rfl, rfl, rfl⟩ := H
     obtain ⟨hcz19_0, hcz19_1, hcz19_2, hfz19_0, hfz19_1, hfz19_2⟩ := cq3 BK251
     go_wp2
     refine bodyPost_ret (results_ct rfl _ _ gb251 27 #[.int .i64 0, .int .i64 0, .int .i64 0] (0, 0) _ rfl (bp) Try.underlying27 rfl (by kernel_rfl)) rfl ?_
     exact ⟨er, bl⟩
    ·replace c18 := Bool.eq_false_iff.mpr c18
     subst c18
     have H1 : (if a2 = 0 then (some (0, 0, 0, 5)) else ((impl_ballAt.f kj6 a0 a1 a2 a3).bind fun bt258 => ((impl_fitted.f bt258.1 bt258.2.1 bt258.2.2.1 bt258.2.2.2).bind fun bt262 => (some (bt262.1, bt262.2.1, bt262.2.2.1, bt262.2.2.2))))) = some (r1, r2, r3, r4) := by rw [if_neg (show ¬ (false = true) by decide)] at H; exact H
     clear H
     have H := H1
     clear H1
     replace H := ii H
     rcases H with ⟨c20, H⟩ | ⟨c20, H⟩
     ·obtain ⟨c20b0, c20b1⟩ := zz c20
      clear c20
      simp only [Option.some.injEq, Prod.mk.injEq] at H
      obtain ⟨rfl, rfl, rfl, rfl⟩ := H
      obtain ⟨hcz21_0, hcz21_1, hcz21_2, hfz21_0, hfz21_1, hfz21_2⟩ := cq3 BK251
      go_wp2
      refine bodyPost_ret (results_ct rfl _ _ gb251 27 #[.int .i64 0, .int .i64 0, .int .i64 0] (0, 0) _ rfl (bp) Try.underlying27 rfl (by kernel_rfl)) rfl ?_
      exact ⟨er, bl⟩
     ·obtain ⟨c20b0, c20b1⟩ := zy c20
      replace H := zi H
      obtain ⟨⟨t258, t259, t260, t261⟩, A22, H⟩ := H
      try dsimp only at H
      replace H := zi H
      obtain ⟨⟨t262, t263, t264, t265⟩, A23, H⟩ := H
      try dsimp only at H
      simp only [Option.some.injEq, Prod.mk.injEq] at H
      obtain ⟨rfl, rfl, rfl, rfl⟩ := H
      go_wp2_with (first | ((with_reducible refine zf 128 rfl ?_); refine g1 (some 35) Try.func128 #[.int .i64 a0, .int .i64 a1, .int .i64 a2, .int .i64 a3] ?_; (with_reducible refine (impl_ballAt.calls kj6 a0 a1 a2 a3 t258 t259 t260 t261 _ A22.out).mono ?_); rintro e w24 ⟨rfl, hb⟩; refine ⟨_, rfl, ?_⟩; replace BK251 := bb BK251 hb; replace HB := bs hb; (try clear hb)) | ((with_reducible refine zf 93 rfl ?_); refine g1 (some 38) Try.func93 #[.agg #[.int .i64 t258, .int .i64 t259, .int .i64 t260], .bool t261] ?_; (with_reducible refine (impl_fitted.calls t258 t259 t260 t261 t262 t263 t264 t265 _ A23.out).mono ?_); rintro e w25 ⟨rfl, hb⟩; refine ⟨_, rfl, ?_⟩; replace BK251 := bb BK251 hb; replace HB := bs hb; (try clear hb); obtain ⟨hcz26_0, hcz26_1, hcz26_2, hfz26_0, hfz26_1, hfz26_2⟩ := cq3 BK251))
      refine bodyPost_ret (results_ct rfl _ _ gb251 27 #[.int .i64 t262, .int .i64 t263, .int .i64 t264] (0, 0) _ rfl (bp) Try.underlying27 rfl (by kernel_rfl)) rfl ?_
      exact ⟨er, bl⟩
 ·replace c6 := Bool.eq_false_iff.mpr c6
  subst c6
  have H1 : (some (0, 0, 0, 1)) = some (r1, r2, r3, r4) := by rw [if_neg (show ¬ (false = true) by decide)] at H; exact H
  clear H
  have H := H1
  clear H1
  simp only [Option.some.injEq, Prod.mk.injEq] at H
  obtain ⟨rfl, rfl, rfl, rfl⟩ := H
  go_enter Try.func62, Try.ntmps62
  go_wp2_with (first | ((with_reducible refine zg 8 rfl ?_); refine z3 8 27 0 0 0 ?_; intro gb251 hg w27 BK251 hb; have GW251 := sg hg; replace HB := bs hb; clear hb hg) | ((with_reducible refine zf 119 rfl ?_); refine g1 (some 12) Try.func119 #[.int .i64 a0] ?_; (with_reducible refine (impl_isPrime.calls a0 false _ A5.out).mono ?_); rintro e w' ⟨rfl, ⟨nd, rfl⟩⟩; refine ⟨_, rfl, ?_⟩; (try (rw [drewN_self w27]; generalize hq_ : World.drewN w27 _ = w27; have n0_ : Aside0 (w27.heap[gb251]? = some (.cells #[.int .i64 0, .int .i64 0, .int .i64 0] 27 (0, 0))) := ⟨by rw [← hq_]; exact (be BK251)⟩; have n1_ : Aside0 (Below w.heap.size w w27) := ⟨by rw [← hq_]; exact (bl)⟩; clear BK251 HB hq_; have BK251 := n0_; have HB := n1_; clear n0_ n1_)); obtain ⟨hcz28_0, hcz28_1, hcz28_2, hfz28_0, hfz28_1, hfz28_2⟩ := cq3 BK251))
  refine bodyPost_ret (results_ct rfl _ _ gb251 27 #[.int .i64 0, .int .i64 0, .int .i64 0] (0, 0) _ rfl (bp) Try.underlying27 rfl (by kernel_rfl)) rfl ?_
  exact ⟨er, bl⟩

/-! ### spec_l01In: function 88 -/
def spec_l01In.f (a0 : Int) (a1 : Int) (a2 : Int) : Option (Bool) := if a0 ≥ a1 then (some (decide (a0 ≤ a2))) else (some false)
set_option maxHeartbeats 8000000 in
set_option maxRecDepth 100000 in
theorem spec_l01In.calls (a0 : Int) (a1 : Int) (a2 : Int) (r : Bool) (w : World) (h : spec_l01In.f a0 a1 a2 = some r) :
  Calls Try.prog 88 #[.int .i64 a0, .int .i64 a1, .int .i64 a2] w fun e w' => e = .returned (.bool r) ∧ Drawn0 w w' := by
 unfold spec_l01In.f at h
 have H := h
 clear h
 replace H := ii H
 rcases H with ⟨c4, H⟩ | ⟨c4, H⟩
 ·have c4b0 := decide_eq_true c4
  clear c4
  obtain rfl := Option.some.inj H
  go_enter Try.func88, Try.ntmps88
  go_wp2
  go_ret
  exact zx
 ·have c4b0 := decide_eq_false c4
  clear c4
  obtain rfl := Option.some.inj H
  go_enter Try.func88, Try.ntmps88
  go_wp2
  go_ret
  exact zx

/-! ### spec_l01Val: function 138 -/
def spec_l01Val.l0 : Nat → Int → Int → Int → Option (Int)
 | 0, _, _, _ => none
 | k + 1, x0, x1, x5 => if x0 = 0 then (none) else (if (Int.tmod x1 x0) = 0 then (spec_l01Val.l0 k x0 (wrap64 (Int.tdiv x1 x0)) (wrap64 (x5 + 1))) else (some x5))
def spec_l01Val.f (k : Nat) (a0 : Int) (a1 : Int) : Option (Int) := spec_l01Val.l0 k a0 a1 0
set_option maxHeartbeats 8000000 in
set_option maxRecDepth 100000 in
theorem spec_l01Val.calls (k : Nat) (a0 : Int) (a1 : Int) (r : Int) (w : World) (h : spec_l01Val.f k a0 a1 = some r) :
  Calls Try.prog 138 #[.int .i64 a0, .int .i64 a1] w fun e w' => e = .returned (.int .i64 r) ∧ Drawn0 w w' := by
 unfold spec_l01Val.f at h
 have H := h
 clear h
 have H' := Aside0.mk H
 clear H
 go_enter Try.func138, Try.ntmps138
 go_wp2
 go_loopg [1, 5] k (fun kq v1 v5 w' => ∃ (x1_1 : Int) (x5_1 : Int), v1 = .int .i64 x1_1 ∧ v5 = .int .i64 x5_1 ∧ Aside0 (spec_l01Val.l0 kq a0 x1_1 x5_1 = some r) ∧ Aside0 (kq ≤ k) ∧ Drawn0 w w')
 case atStart => exact ⟨(a1), (0), (by first | rfl | (simp; done) | (simp [*]; done)), (by first | rfl | (simp; done) | (simp [*]; done)), H', ⟨Nat.le_refl _⟩, by repeat (first | exact Drawn0.refl _ | apply Drawn0.step)⟩
 case round =>
  clear H'
  obtain ⟨x1_1, x5_1, rfl, rfl, HA, HK1, ⟨m1, rfl⟩⟩ := hrel
  cases gk with
  | zero => exact absurd HA.out (by simp [spec_l01Val.l0])
  | succ k1 =>
   have H := HA.out
   clear HA
   simp only [spec_l01Val.l0] at H
   replace H := ii H
   rcases H with ⟨c3, H⟩ | ⟨c3, H⟩
   ·exact absurd H (by simp)
   ·obtain ⟨c3b0, c3b1⟩ := zy c3
    replace H := ii H
    rcases H with ⟨c4, H⟩ | ⟨c4, H⟩
    ·obtain ⟨c4b0, c4b1⟩ := zz c4
     clear c4
     have H' := Aside0.mk H
     clear H
     go_wp2
     go_roundg k1
     case measure => have := HK1.out; omega
     case rel => exact ⟨(wrap64 (Int.tdiv x1_1 a0)), (wrap64 (x5_1 + 1)), (by first | rfl | (simp; done) | (simp [*]; done)), (by first | rfl | (simp; done) | (simp [*]; done)), H', ⟨by have := HK1.out; omega⟩, by repeat (first | exact Drawn0.refl _ | apply Drawn0.step)⟩
    ·obtain ⟨c4b0, c4b1⟩ := zy c4
     obtain rfl := Option.some.inj H
     go_wp2
     go_ret
     exact zx

/-! ### spec_l01MulMod: function 143 -/
def spec_l01MulMod.f (a0 : Int) (a1 : Int) (a2 : Int) : Option (Int) := if a2 = 0 then (none) else (some (Int.tmod (wrap64 ((Int.tmod (wrap64 ((Int.tmod (wrap64 ((Int.tmod (wrap64 ((Int.tmod a0 a2) + a2)) a2) * (wrap64 (Int.tdiv (Int.tmod (wrap64 ((Int.tmod a1 a2) + a2)) a2) 1000000)))) a2) * 1000000)) a2) + (Int.tmod (wrap64 ((Int.tmod (wrap64 ((Int.tmod a0 a2) + a2)) a2) * (Int.tmod (Int.tmod (wrap64 ((Int.tmod a1 a2) + a2)) a2) 1000000))) a2))) a2))
set_option maxHeartbeats 8000000 in
set_option maxRecDepth 100000 in
theorem spec_l01MulMod.calls (a0 : Int) (a1 : Int) (a2 : Int) (r : Int) (w : World) (h : spec_l01MulMod.f a0 a1 a2 = some r) :
  Calls Try.prog 143 #[.int .i64 a0, .int .i64 a1, .int .i64 a2] w fun e w' => e = .returned (.int .i64 r) ∧ Drawn0 w w' := by
 unfold spec_l01MulMod.f at h
 have H := h
 clear h
 replace H := ii H
 rcases H with ⟨c4, H⟩ | ⟨c4, H⟩
 ·exact absurd H (by simp)
 ·obtain ⟨c4b0, c4b1⟩ := zy c4
  obtain rfl := Option.some.inj H
  go_enter Try.func143, Try.ntmps143
  go_wp2
  repeat (go_quiet (fail); try go_wp2)
  go_ret
  exact zx

/-! ### spec_l01InvMod: function 144 -/
def spec_l01InvMod.l0 : Nat → Int → Int → Int → Int → Int → Option (Int)
 | 0, _, _, _, _, _ => none
 | k + 1, x1, x5, x6, x7, x8 => if x6 = 0 then (if x1 = 0 then (none) else (some (Int.tmod (wrap64 ((Int.tmod x7 x1) + x1)) x1))) else (spec_l01InvMod.l0 k x1 x6 (wrap64 (x5 - (wrap64 ((wrap64 (Int.tdiv x5 x6)) * x6)))) x8 (wrap64 (x7 - (wrap64 ((wrap64 (Int.tdiv x5 x6)) * x8)))))
def spec_l01InvMod.f (k : Nat) (a0 : Int) (a1 : Int) : Option (Int) := if a1 = 0 then (none) else (spec_l01InvMod.l0 k a1 (Int.tmod (wrap64 ((Int.tmod a0 a1) + a1)) a1) a1 1 0)
set_option maxHeartbeats 8000000 in
set_option maxRecDepth 100000 in
theorem spec_l01InvMod.calls (k : Nat) (a0 : Int) (a1 : Int) (r : Int) (w : World) (h : spec_l01InvMod.f k a0 a1 = some r) :
  Calls Try.prog 144 #[.int .i64 a0, .int .i64 a1] w fun e w' => e = .returned (.int .i64 r) ∧ Drawn0 w w' := by
 unfold spec_l01InvMod.f at h
 have H := h
 clear h
 replace H := ii H
 rcases H with ⟨c3, H⟩ | ⟨c3, H⟩
 ·exact absurd H (by simp)
 ·obtain ⟨c3b0, c3b1⟩ := zy c3
  have H' := Aside0.mk H
  clear H
  go_enter Try.func144, Try.ntmps144
  go_wp2
  go_loopg [5, 6, 7, 8] k (fun kq v5 v6 v7 v8 w' => ∃ (x5_1 : Int) (x6_1 : Int) (x7_1 : Int) (x8_1 : Int), v5 = .int .i64 x5_1 ∧ v6 = .int .i64 x6_1 ∧ v7 = .int .i64 x7_1 ∧ v8 = .int .i64 x8_1 ∧ Aside0 (spec_l01InvMod.l0 kq a1 x5_1 x6_1 x7_1 x8_1 = some r) ∧ Aside0 (kq ≤ k) ∧ Drawn0 w w')
  case atStart => exact ⟨(Int.tmod (wrap64 ((Int.tmod a0 a1) + a1)) a1), (a1), (1), (0), (by first | rfl | (simp; done) | (simp [*]; done)), (by first | rfl | (simp; done) | (simp [*]; done)), (by first | rfl | (simp; done) | (simp [*]; done)), (by first | rfl | (simp; done) | (simp [*]; done)), H', ⟨Nat.le_refl _⟩, by repeat (first | exact Drawn0.refl _ | apply Drawn0.step)⟩
  case round =>
   clear H'
   obtain ⟨x5_1, x6_1, x7_1, x8_1, rfl, rfl, rfl, rfl, HA, HK1, ⟨m1, rfl⟩⟩ := hrel
   cases gk with
   | zero => exact absurd HA.out (by simp [spec_l01InvMod.l0])
   | succ k1 =>
    have H := HA.out
    clear HA
    simp only [spec_l01InvMod.l0] at H
    replace H := ii H
    rcases H with ⟨c4, H⟩ | ⟨c4, H⟩
    ·obtain ⟨c4b0, c4b1⟩ := zz c4
     clear c4
     replace H := ii H
     rcases H with ⟨c5, H⟩ | ⟨c5, H⟩
     ·exact absurd H (by simp)
     ·obtain ⟨c5b0, c5b1⟩ := zy c5
      obtain rfl := Option.some.inj H
      go_wp2
      go_ret
      exact zx
    ·obtain ⟨c4b0, c4b1⟩ := zy c4
     have H' := Aside0.mk H
     clear H
     go_wp2
     go_roundg k1
     case measure => have := HK1.out; omega
     case rel => exact ⟨(x6_1), (wrap64 (x5_1 - (wrap64 ((wrap64 (Int.tdiv x5_1 x6_1)) * x6_1)))), (x8_1), (wrap64 (x7_1 - (wrap64 ((wrap64 (Int.tdiv x5_1 x6_1)) * x8_1)))), (by first | rfl | (simp; done) | (simp [*]; done)), (by first | rfl | (simp; done) | (simp [*]; done)), (by first | rfl | (simp; done) | (simp [*]; done)), (by first | rfl | (simp; done) | (simp [*]; done)), H', ⟨by have := HK1.out; omega⟩, by repeat (first | exact Drawn0.refl _ | apply Drawn0.step)⟩

end Go.Proofs.Ytpmepopagapeiaa.PFnBalls
