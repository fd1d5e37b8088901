-- Printed by the kit's print and repaired by a program of this session.
import Derived.Test.YtgdkmchphpjifaaGreatDoorPFnEndsx0
import Derived.Test.YtgdkmchphpjifaaGreatDoorPFnEndsx3
import Derived.Test.YtgdkmchphpjifaaGreatDoorPFnEndsx4
import Derived.Test.YtgdkmchphpjifaaGreatDoorPFnEndsx9
import Derived.Test.YtgdkmchphpjifaaGreatDoorPFnEndsx10
import Derived.Test.YtgdkmchphpjifaaGreatDoorPFnEndsx11
import Derived.Test.YtgdkmchphpjifaaGreatDoorPFnEndsx16
import Derived.Test.YtgdkmchphpjifaaGreatDoorPFnEndsx17
import Derived.Test.YtgdkmchphpjifaaGreatDoorPFnEndsx18
namespace Go.Proofs.YtgdkmchphpjifaaGreatDoor.PFnEnds
open Go.RowKit Go.Proofs.YtgdkmchphpjifaaGreatDoorW.PrintWords Go.Proofs.YtgdkmchphpjifaaGreatDoorW.PrintLast Go.Proofs.YtgdkmchphpjifaaGreatDoorW.PrintMore
attribute [local go_sem] max2_int min2_int max_two min_two max_three min_three max_four min_four
set_option linter.unusedVariables false
set_option linter.unusedSimpArgs false

/-! ### impl_ballAt: function 54 -/
def impl_ballAt.j0 : Nat → Int → Int → Int → Int → Int → Bool → Option (Int × Int × Int × Bool)
 | 0, _, _, _, _, _, _ => none
 | k + 1, x0, x1, x2, x3, x10, x24 => if x24 = true then (some (x3, 0, 0, true)) else (if x10 < (-6) then (some (0, 0, 0, false)) else ((impl_power.f k x0 (wrap64 (x3 + 6))).bind fun t615 => ((impl_unit.f k x0 x1).bind fun t616 => ((impl_unit.f k x0 x2).bind fun t617 => ((impl_inverse.f k t617 t615).bind fun t618 => ((impl_times.f k t616 t618 t615).bind fun t619 => ((impl_power.f k x0 (wrap64 (x10 + 6))).bind fun t620 => ((impl_times.f k t619 t620 t615).bind fun t621 => ((impl_ofMark.f k x0 x3 t621).bind fun bt622 => (some (bt622.1, bt622.2.1, bt622.2.2.1, bt622.2.2.2)))))))))))
def impl_ballAt.f (k : Nat) (a0 : Int) (a1 : Int) (a2 : Int) (a3 : Int) : Option (Int × Int × Int × Bool) := (impl_isLevel.f a3).bind fun t612 => (if t612 = true then ((impl_valuation.f k a0 a1).bind fun t613 => ((impl_valuation.f k a0 a2).bind fun t614 => (if a1 = 0 then (impl_ballAt.j0 k a0 a1 a2 a3 (wrap64 (t613 - t614)) true) else (impl_ballAt.j0 k a0 a1 a2 a3 (wrap64 (t613 - t614)) (decide ((wrap64 (t613 - t614)) ≥ a3)))))) else (some (0, 0, 0, false)))
set_option maxHeartbeats 8000000 in
set_option maxRecDepth 100000 in
theorem impl_ballAt.calls (k : Nat) (a0 : Int) (a1 : Int) (a2 : Int) (a3 : Int) (r1 : Int) (r2 : Int) (r3 : Int) (r4 : Bool) (w : World) (h : impl_ballAt.f k a0 a1 a2 a3 = some (r1, r2, r3, r4)) :
  Calls Tryz.prog 54 #[.int .i64 a0, .int .i64 a1, .int .i64 a2, .int .i64 a3] w fun e w' => e = .returned (.tuple #[.agg #[.int .i64 r1, .int .i64 r2, .int .i64 r3], .bool r4]) ∧ Below w.heap.size w w' := by
 have hu35 := Tryz.underlying35
 have HB := Aside0.mk (Below.refl w.heap.size w)
 unfold impl_ballAt.f at h
 have H := h
 clear h
 replace H := zi H
 obtain ⟨t612, A5, H⟩ := H
 try dsimp only at H
 by_cases c6 : t612 = true
 ·subst c6
  rw [if_pos rfl] at H
  replace H := zi H
  obtain ⟨t613, A7, H⟩ := H
  try dsimp only at H
  replace H := zi H
  obtain ⟨t614, A8, H⟩ := H
  try dsimp only at H
  have HC9 := Aside0.mk H
  clear H
  go_enter Tryz.func54, Tryz.ntmps54
  go_upto_region 4 with (first | ((with_reducible refine zg 8 rfl ?_); refine z3 8 35 0 0 0 ?_; intro gb611 hg w10 BK611 hb; have GW611 := sg hg; replace HB := bs hb; clear hb hg) | ((with_reducible refine zf 52 rfl ?_); refine g1 (some 14) Tryz.func52 #[.int .i64 a3] ?_; (with_reducible refine (impl_isLevel.calls a3 true _ A5.out).mono ?_); rintro e w' ⟨rfl, ⟨nd, rfl⟩⟩; refine ⟨_, rfl, ?_⟩) | ((with_reducible refine zf 71 rfl ?_); refine g1 (some 19) Tryz.func71 #[.int .i64 a0, .int .i64 a1] ?_; (with_reducible refine (impl_valuation.calls k a0 a1 t613 _ A7.out).mono ?_); rintro e w' ⟨rfl, ⟨nd, rfl⟩⟩; refine ⟨_, rfl, ?_⟩) | ((with_reducible refine zf 71 rfl ?_); refine g1 (some 22) Tryz.func71 #[.int .i64 a0, .int .i64 a2] ?_; (with_reducible refine (impl_valuation.calls k a0 a2 t614 _ A8.out).mono ?_); rintro e w' ⟨rfl, ⟨nd, rfl⟩⟩; refine ⟨_, rfl, ?_⟩))
  (try simp only [Act.put, zq, zr, zt])
  go_cut [24] (fun v24 wc => ∃ (kq : Nat) (x24_8 : Bool), v24 = .bool x24_8 ∧ Aside0 (impl_ballAt.j0 kq a0 a1 a2 a3 (wrap64 (t613 - t614)) x24_8 = some (r1, r2, r3, r4)) ∧ Aside0 (kq ≤ k) ∧ Aside0 (wc.heap[gb611]? = some (.cells #[.int .i64 0, .int .i64 0, .int .i64 0] 35 (0, 0))) ∧ Aside0 (Below w.heap.size w wc))
  case first =>
   have H := HC9.out
   clear HC9
   replace H := ii H
   rcases H with ⟨c11, H⟩ | ⟨c11, H⟩
   ·obtain ⟨c11b0, c11b1⟩ := zz c11
    clear c11
    (first | rw [c11b0] | (simp only [i64_w, i32_w]; rw [c11b0]) | skip)
    have H' := Aside0.mk H
    clear H
    go_wp2
    go_meet
    case rel => exact ⟨_, (true), (by first | rfl | (simp; done) | (simp [*]; done)), H', ⟨by first | omega | exact Nat.le_refl _⟩, ⟨be BK611⟩, ⟨bl⟩⟩
   ·obtain ⟨c11b0, c11b1⟩ := zy c11
    (first | rw [c11b0] | (simp only [i64_w, i32_w]; rw [c11b0]) | skip)
    have H' := Aside0.mk H
    clear H
    go_wp2
    go_meet
    case rel => exact ⟨_, (decide ((wrap64 (t613 - t614)) ≥ a3)), (by first | rfl | (simp; done) | (simp [*]; done)), H', ⟨by first | omega | exact Nat.le_refl _⟩, ⟨be BK611⟩, ⟨bl⟩⟩
  case rest =>
   clear HC9
   obtain ⟨kq, x24_8, rfl, HA, HJ8, BK611, HB⟩ := hcut
   cases kq with
   | zero => exact absurd HA.out (by simp [impl_ballAt.j0])
   | succ kj8 =>
    have H := HA.out
    clear HA
    simp only [impl_ballAt.j0] at H
    by_cases c12 : x24_8 = true
    ·subst c12
     rw [if_pos rfl] at H
     simp only [Option.some.injEq, Prod.mk.injEq] at H
     obtain ⟨rfl, rfl, rfl, rfl⟩ := H
     obtain ⟨hcz13_0, hcz13_1, hcz13_2, hfz13_0, hfz13_1, hfz13_2⟩ := cq3 BK611
     go_wp2
     refine bodyPost_ret (results_ct rfl _ _ gb611 35 #[.int .i64 a3, .int .i64 0, .int .i64 0] (0, 0) _ rfl (bp) Tryz.underlying35 rfl (by kernel_rfl)) rfl ?_
     exact ⟨er, bl⟩
    ·replace c12 := Bool.eq_false_iff.mpr c12
     subst c12
     have H1 : (if (wrap64 (t613 - t614)) < (-6) then (some (0, 0, 0, false)) else ((impl_power.f kj8 a0 (wrap64 (a3 + 6))).bind fun t615 => ((impl_unit.f kj8 a0 a1).bind fun t616 => ((impl_unit.f kj8 a0 a2).bind fun t617 => ((impl_inverse.f kj8 t617 t615).bind fun t618 => ((impl_times.f kj8 t616 t618 t615).bind fun t619 => ((impl_power.f kj8 a0 (wrap64 ((wrap64 (t613 - t614)) + 6))).bind fun t620 => ((impl_times.f kj8 t619 t620 t615).bind fun t621 => ((impl_ofMark.f kj8 a0 a3 t621).bind fun bt622 => (some (bt622.1, bt622.2.1, bt622.2.2.1, bt622.2.2.2))))))))))) = some (r1, r2, r3, r4) := by rw [if_neg (show ¬ (false = true) by decide)] at H; exact H
     clear H
     have H := H1
     clear H1
     replace H := ii H
     rcases H with ⟨c14, H⟩ | ⟨c14, H⟩
     ·have c14b0 := decide_eq_true c14
      clear c14
      simp only [Option.some.injEq, Prod.mk.injEq] at H
      obtain ⟨rfl, rfl, rfl, rfl⟩ := H
      obtain ⟨hcz15_0, hcz15_1, hcz15_2, hfz15_0, hfz15_1, hfz15_2⟩ := cq3 BK611
      go_wp2
      refine bodyPost_ret (results_ct rfl _ _ gb611 35 #[.int .i64 0, .int .i64 0, .int .i64 0] (0, 0) _ rfl (bp) Tryz.underlying35 rfl (by kernel_rfl)) rfl ?_
      exact ⟨er, bl⟩
     ·have c14b0 := decide_eq_false c14
      clear c14
      replace H := zi H
      obtain ⟨t615, A16, H⟩ := H
      try dsimp only at H
      replace H := zi H
      obtain ⟨t616, A17, H⟩ := H
      try dsimp only at H
      replace H := zi H
      obtain ⟨t617, A18, H⟩ := H
      try dsimp only at H
      replace H := zi H
      obtain ⟨t618, A19, H⟩ := H
      try dsimp only at H
      replace H := zi H
      obtain ⟨t619, A20, H⟩ := H
      try dsimp only at H
      replace H := zi H
      obtain ⟨t620, A21, H⟩ := H
      try dsimp only at H
      replace H := zi H
      obtain ⟨t621, A22, H⟩ := H
      try dsimp only at H
      replace H := zi H
      obtain ⟨⟨t622, t623, t624, t625⟩, A23, H⟩ := H
      try dsimp only at H
      simp only [Option.some.injEq, Prod.mk.injEq] at H
      obtain ⟨rfl, rfl, rfl, rfl⟩ := H
      go_wp2_with (first | ((with_reducible refine zf 65 rfl ?_); refine g1 (some 41) Tryz.func65 #[.int .i64 a0, .int .i64 (wrap64 (a3 + 6))] ?_; (with_reducible refine (impl_power.calls kj8 a0 (wrap64 (a3 + 6)) t615 _ A16.out).mono ?_); rintro e w' ⟨rfl, ⟨nd, rfl⟩⟩; refine ⟨_, rfl, ?_⟩; (try (rw [drewN_self wc]; generalize hq_ : World.drewN wc _ = wc; have n0_ : Aside0 (wc.heap[gb611]? = some (.cells #[.int .i64 0, .int .i64 0, .int .i64 0] 35 (0, 0))) := ⟨by rw [← hq_]; exact (be BK611)⟩; have n1_ : Aside0 (Below w.heap.size w wc) := ⟨by rw [← hq_]; exact (bl)⟩; clear BK611 HB hq_; have BK611 := n0_; have HB := n1_; clear n0_ n1_))) | ((with_reducible refine zf 73 rfl ?_); refine g1 (some 44) Tryz.func73 #[.int .i64 a0, .int .i64 a1] ?_; (with_reducible refine (impl_unit.calls kj8 a0 a1 t616 _ A17.out).mono ?_); rintro e w' ⟨rfl, ⟨nd, rfl⟩⟩; refine ⟨_, rfl, ?_⟩; (try (rw [drewN_self wc]; generalize hq_ : World.drewN wc _ = wc; have n0_ : Aside0 (wc.heap[gb611]? = some (.cells #[.int .i64 0, .int .i64 0, .int .i64 0] 35 (0, 0))) := ⟨by rw [← hq_]; exact (be BK611)⟩; have n1_ : Aside0 (Below w.heap.size w wc) := ⟨by rw [← hq_]; exact (bl)⟩; clear BK611 HB hq_; have BK611 := n0_; have HB := n1_; clear n0_ n1_))) | ((with_reducible refine zf 73 rfl ?_); refine g1 (some 47) Tryz.func73 #[.int .i64 a0, .int .i64 a2] ?_; (with_reducible refine (impl_unit.calls kj8 a0 a2 t617 _ A18.out).mono ?_); rintro e w' ⟨rfl, ⟨nd, rfl⟩⟩; refine ⟨_, rfl, ?_⟩; (try (rw [drewN_self wc]; generalize hq_ : World.drewN wc _ = wc; have n0_ : Aside0 (wc.heap[gb611]? = some (.cells #[.int .i64 0, .int .i64 0, .int .i64 0] 35 (0, 0))) := ⟨by rw [← hq_]; exact (be BK611)⟩; have n1_ : Aside0 (Below w.heap.size w wc) := ⟨by rw [← hq_]; exact (bl)⟩; clear BK611 HB hq_; have BK611 := n0_; have HB := n1_; clear n0_ n1_))) | ((with_reducible refine zf 74 rfl ?_); refine g1 (some 49) Tryz.func74 #[.int .i64 t617, .int .i64 t615] ?_; (with_reducible refine (impl_inverse.calls kj8 t617 t615 t618 _ A19.out).mono ?_); rintro e w' ⟨rfl, ⟨nd, rfl⟩⟩; refine ⟨_, rfl, ?_⟩; (try (rw [drewN_self wc]; generalize hq_ : World.drewN wc _ = wc; have n0_ : Aside0 (wc.heap[gb611]? = some (.cells #[.int .i64 0, .int .i64 0, .int .i64 0] 35 (0, 0))) := ⟨by rw [← hq_]; exact (be BK611)⟩; have n1_ : Aside0 (Below w.heap.size w wc) := ⟨by rw [← hq_]; exact (bl)⟩; clear BK611 HB hq_; have BK611 := n0_; have HB := n1_; clear n0_ n1_))) | ((with_reducible refine zf 72 rfl ?_); refine g1 (some 51) Tryz.func72 #[.int .i64 t616, .int .i64 t618, .int .i64 t615] ?_; (with_reducible refine (impl_times.calls kj8 t616 t618 t615 t619 _ A20.out).mono ?_); rintro e w' ⟨rfl, ⟨nd, rfl⟩⟩; refine ⟨_, rfl, ?_⟩; (try (rw [drewN_self wc]; generalize hq_ : World.drewN wc _ = wc; have n0_ : Aside0 (wc.heap[gb611]? = some (.cells #[.int .i64 0, .int .i64 0, .int .i64 0] 35 (0, 0))) := ⟨by rw [← hq_]; exact (be BK611)⟩; have n1_ : Aside0 (Below w.heap.size w wc) := ⟨by rw [← hq_]; exact (bl)⟩; clear BK611 HB hq_; have BK611 := n0_; have HB := n1_; clear n0_ n1_))) | ((with_reducible refine zf 65 rfl ?_); refine g1 (some 58) Tryz.func65 #[.int .i64 a0, .int .i64 (wrap64 ((wrap64 (t613 - t614)) + 6))] ?_; (with_reducible refine (impl_power.calls kj8 a0 (wrap64 ((wrap64 (t613 - t614)) + 6)) t620 _ A21.out).mono ?_); rintro e w' ⟨rfl, ⟨nd, rfl⟩⟩; refine ⟨_, rfl, ?_⟩; (try (rw [drewN_self wc]; generalize hq_ : World.drewN wc _ = wc; have n0_ : Aside0 (wc.heap[gb611]? = some (.cells #[.int .i64 0, .int .i64 0, .int .i64 0] 35 (0, 0))) := ⟨by rw [← hq_]; exact (be BK611)⟩; have n1_ : Aside0 (Below w.heap.size w wc) := ⟨by rw [← hq_]; exact (bl)⟩; clear BK611 HB hq_; have BK611 := n0_; have HB := n1_; clear n0_ n1_))) | ((with_reducible refine zf 72 rfl ?_); refine g1 (some 60) Tryz.func72 #[.int .i64 t619, .int .i64 t620, .int .i64 t615] ?_; (with_reducible refine (impl_times.calls kj8 t619 t620 t615 t621 _ A22.out).mono ?_); rintro e w' ⟨rfl, ⟨nd, rfl⟩⟩; refine ⟨_, rfl, ?_⟩; (try (rw [drewN_self wc]; generalize hq_ : World.drewN wc _ = wc; have n0_ : Aside0 (wc.heap[gb611]? = some (.cells #[.int .i64 0, .int .i64 0, .int .i64 0] 35 (0, 0))) := ⟨by rw [← hq_]; exact (be BK611)⟩; have n1_ : Aside0 (Below w.heap.size w wc) := ⟨by rw [← hq_]; exact (bl)⟩; clear BK611 HB hq_; have BK611 := n0_; have HB := n1_; clear n0_ n1_))) | ((with_reducible refine zf 75 rfl ?_); refine g1 (some 61) Tryz.func75 #[.int .i64 a0, .int .i64 a3, .int .i64 t621] ?_; (with_reducible refine (impl_ofMark.calls kj8 a0 a3 t621 t622 t623 t624 t625 _ A23.out).mono ?_); rintro e w24 ⟨rfl, hb⟩; refine ⟨_, rfl, ?_⟩; replace BK611 := bb BK611 hb; replace HB := bs hb; (try clear hb); obtain ⟨hcz25_0, hcz25_1, hcz25_2, hfz25_0, hfz25_1, hfz25_2⟩ := cq3 BK611))
      refine bodyPost_ret (results_ct rfl _ _ gb611 35 #[.int .i64 t622, .int .i64 t623, .int .i64 t624] (0, 0) _ rfl (bp) Tryz.underlying35 rfl (by kernel_rfl)) rfl ?_
      exact ⟨er, bl⟩
 ·replace c6 := Bool.eq_false_iff.mpr c6
  subst c6
  have H1 : (some (0, 0, 0, false)) = some (r1, r2, r3, r4) := by rw [if_neg (show ¬ (false = true) by decide)] at H; exact H
  clear H
  have H := H1
  clear H1
  simp only [Option.some.injEq, Prod.mk.injEq] at H
  obtain ⟨rfl, rfl, rfl, rfl⟩ := H
  go_enter Tryz.func54, Tryz.ntmps54
  go_wp2_with (first | ((with_reducible refine zg 8 rfl ?_); refine z3 8 35 0 0 0 ?_; intro gb611 hg w26 BK611 hb; have GW611 := sg hg; replace HB := bs hb; clear hb hg) | ((with_reducible refine zf 52 rfl ?_); refine g1 (some 14) Tryz.func52 #[.int .i64 a3] ?_; (with_reducible refine (impl_isLevel.calls a3 false _ A5.out).mono ?_); rintro e w' ⟨rfl, ⟨nd, rfl⟩⟩; refine ⟨_, rfl, ?_⟩; (try (rw [drewN_self w26]; generalize hq_ : World.drewN w26 _ = w26; have n0_ : Aside0 (w26.heap[gb611]? = some (.cells #[.int .i64 0, .int .i64 0, .int .i64 0] 35 (0, 0))) := ⟨by rw [← hq_]; exact (be BK611)⟩; have n1_ : Aside0 (Below w.heap.size w w26) := ⟨by rw [← hq_]; exact (bl)⟩; clear BK611 HB hq_; have BK611 := n0_; have HB := n1_; clear n0_ n1_)); obtain ⟨hcz27_0, hcz27_1, hcz27_2, hfz27_0, hfz27_1, hfz27_2⟩ := cq3 BK611))
  refine bodyPost_ret (results_ct rfl _ _ gb611 35 #[.int .i64 0, .int .i64 0, .int .i64 0] (0, 0) _ rfl (bp) Tryz.underlying35 rfl (by kernel_rfl)) rfl ?_
  exact ⟨er, bl⟩

/-! ### impl_BallOfEnd: function 20 -/
def impl_BallOfEnd.j0 : Nat → Int → Int → Bool → Int → Int → Option (Int × Int × Int × Int)
 | 0, _, _, _, _, _ => none
 | k + 1, x0, x2, x8, x627000, x627001 => if x8 = true then (some (0, 0, 0, 1)) else ((impl_isLevel.f x2).bind fun t630 => (if t630 = true then (if x627001 = 0 then (some (0, 0, 0, 5)) else ((impl_ballAt.f k x0 x627000 x627001 x2).bind fun bt631 => ((impl_fitted.f bt631.1 bt631.2.1 bt631.2.2.1 bt631.2.2.2).bind fun bt635 => (some (bt635.1, bt635.2.1, bt635.2.2.1, bt635.2.2.2))))) else (some (0, 0, 0, 2))))
def impl_BallOfEnd.f (k : Nat) (a0 : Int) (a1_0 : Int) (a1_1 : Int) (a2 : Int) : Option (Int × Int × Int × Int) := (impl_isPrime.f a0).bind fun t628 => (if t628 = true then ((impl_IsEnd.f k a1_0 a1_1).bind fun t629 => (impl_BallOfEnd.j0 k a0 a2 (!t629) a1_0 a1_1)) else (impl_BallOfEnd.j0 k a0 a2 true a1_0 a1_1))
set_option maxHeartbeats 8000000 in
set_option maxRecDepth 100000 in
theorem impl_BallOfEnd.calls (k : Nat) (a0 : Int) (a1_0 : Int) (a1_1 : Int) (a2 : Int) (r1 : Int) (r2 : Int) (r3 : Int) (r4 : Int) (w : World) (h : impl_BallOfEnd.f k a0 a1_0 a1_1 a2 = some (r1, r2, r3, r4)) :
  Calls Tryz.prog 20 #[.int .i64 a0, .agg #[.int .i64 a1_0, .int .i64 a1_1], .int .i64 a2] w fun e w' => e = .returned (.tuple #[.agg #[.int .i64 r1, .int .i64 r2, .int .i64 r3], .int .i64 r4]) ∧ Below w.heap.size w w' := by
 have hu27 := Tryz.underlying27
 have hu35 := Tryz.underlying35
 have HB := Aside0.mk (Below.refl w.heap.size w)
 unfold impl_BallOfEnd.f at h
 have H := h
 clear h
 have HC4 := Aside0.mk H
 clear H
 go_enter Tryz.func20, Tryz.ntmps20
 go_upto_region 1 with (first | ((with_reducible refine zg 4 rfl ?_); refine zb 4 27 #[.int .i64 a1_0, .int .i64 a1_1] ?_; intro gb626 hg w5 BK626 hb; have GW626 := sg hg; replace HB := bs hb; clear hb hg) | ((with_reducible refine zg 6 rfl ?_); refine z3 6 35 0 0 0 ?_; intro gb627 hg w6 BK627 hb; have GW627 := sg hg; have NB626_627 := nl hg BK626; replace BK626 := bb BK626 hb; replace HB := bs hb; clear hb hg))
 (try simp only [Act.put, zq, zr, zt])
 go_cut [8] (fun v8 wc => ∃ (kq : Nat) (x8_3 : Bool), v8 = .bool x8_3 ∧ Aside0 (impl_BallOfEnd.j0 kq a0 a2 x8_3 a1_0 a1_1 = some (r1, r2, r3, r4)) ∧ Aside0 (kq ≤ k) ∧ Aside0 (wc.heap[gb626]? = some (.cells #[.int .i64 a1_0, .int .i64 a1_1] 27 (0, 0))) ∧ Aside0 (wc.heap[gb627]? = some (.cells #[.int .i64 0, .int .i64 0, .int .i64 0] 35 (0, 0))) ∧ Aside0 (Below w.heap.size w wc))
 case first =>
  have H := HC4.out
  clear HC4
  replace H := zi H
  obtain ⟨t628, A7, H⟩ := H
  try dsimp only at H
  by_cases c8 : t628 = true
  ·subst c8
   rw [if_pos rfl] at H
   replace H := zi H
   obtain ⟨t629, A9, H⟩ := H
   try dsimp only at H
   have H' := Aside0.mk H
   clear H
   go_wp2_with (first | ((with_reducible refine zf 43 rfl ?_); refine g1 (some 10) Tryz.func43 #[.int .i64 a0] ?_; (with_reducible refine (impl_isPrime.calls a0 true _ A7.out).mono ?_); rintro e w' ⟨rfl, ⟨nd, rfl⟩⟩; refine ⟨_, rfl, ?_⟩; obtain ⟨hnb10, hnc10⟩ := zn NB626_627; obtain ⟨hcz11_0, hcz11_1, hfz11_0, hfz11_1⟩ := z2 BK626) | (go_at_call 10; (with_reducible refine (impl_IsEnd.calls k a1_0 a1_1 t629 _ A9.out).mono ?_); rintro e w12 ⟨rfl, hb⟩; replace BK626 := bb BK626 hb; replace BK627 := bb BK627 hb; replace HB := bs hb; (try clear hb)))
   go_meet
   case rel => exact ⟨_, (!t629), (by first | rfl | (simp; done) | (simp [*]; done)), H', ⟨by first | omega | exact Nat.le_refl _⟩, ⟨be BK626⟩, ⟨be BK627⟩, ⟨bl⟩⟩
  ·replace c8 := Bool.eq_false_iff.mpr c8
   subst c8
   have H1 : (impl_BallOfEnd.j0 k a0 a2 true a1_0 a1_1) = some (r1, r2, r3, r4) := by rw [if_neg (show ¬ (false = true) by decide)] at H; exact H
   clear H
   have H := H1
   clear H1
   have H' := Aside0.mk H
   clear H
   go_wp2_with (first | ((with_reducible refine zf 43 rfl ?_); refine g1 (some 10) Tryz.func43 #[.int .i64 a0] ?_; (with_reducible refine (impl_isPrime.calls a0 false _ A7.out).mono ?_); rintro e w' ⟨rfl, ⟨nd, rfl⟩⟩; refine ⟨_, rfl, ?_⟩))
   go_meet
   case rel => exact ⟨_, (true), (by first | rfl | (simp; done) | (simp [*]; done)), H', ⟨by first | omega | exact Nat.le_refl _⟩, ⟨be BK626⟩, ⟨be BK627⟩, ⟨bl⟩⟩
 case rest =>
  clear HC4
  obtain ⟨kq, x8_3, rfl, HA, HJ3, BK626, BK627, HB⟩ := hcut
  cases kq with
  | zero => exact absurd HA.out (by simp [impl_BallOfEnd.j0])
  | succ kj3 =>
   have H := HA.out
   clear HA
   simp only [impl_BallOfEnd.j0] at H
   by_cases c13 : x8_3 = true
   ·subst c13
    rw [if_pos rfl] at H
    simp only [Option.some.injEq, Prod.mk.injEq] at H
    obtain ⟨rfl, rfl, rfl, rfl⟩ := H
    obtain ⟨hnb14, hnc14⟩ := zm NB626_627
    obtain ⟨hcz15_0, hcz15_1, hcz15_2, hfz15_0, hfz15_1, hfz15_2⟩ := cq3 BK627
    go_wp2
    refine bodyPost_ret (results_ct rfl _ _ gb627 35 #[.int .i64 0, .int .i64 0, .int .i64 0] (0, 0) _ rfl (bp) Tryz.underlying35 rfl (by kernel_rfl)) rfl ?_
    exact ⟨er, bl⟩
   ·replace c13 := Bool.eq_false_iff.mpr c13
    subst c13
    have H1 : ((impl_isLevel.f a2).bind fun t630 => (if t630 = true then (if a1_1 = 0 then (some (0, 0, 0, 5)) else ((impl_ballAt.f kj3 a0 a1_0 a1_1 a2).bind fun bt631 => ((impl_fitted.f bt631.1 bt631.2.1 bt631.2.2.1 bt631.2.2.2).bind fun bt635 => (some (bt635.1, bt635.2.1, bt635.2.2.1, bt635.2.2.2))))) else (some (0, 0, 0, 2)))) = some (r1, r2, r3, r4) := by rw [if_neg (show ¬ (false = true) by decide)] at H; exact H
    clear H
    have H := H1
    clear H1
    replace H := zi H
    obtain ⟨t630, A16, H⟩ := H
    try dsimp only at H
    by_cases c17 : t630 = true
    ·subst c17
     rw [if_pos rfl] at H
     replace H := ii H
     rcases H with ⟨c18, H⟩ | ⟨c18, H⟩
     ·obtain ⟨c18b0, c18b1⟩ := zz c18
      clear c18
      simp only [Option.some.injEq, Prod.mk.injEq] at H
      obtain ⟨rfl, rfl, rfl, rfl⟩ := H
      go_wp2_with (first | ((with_reducible refine zf 52 rfl ?_); refine g1 (some 20) Tryz.func52 #[.int .i64 a2] ?_; (with_reducible refine (impl_isLevel.calls a2 true _ A16.out).mono ?_); rintro e w' ⟨rfl, ⟨nd, rfl⟩⟩; refine ⟨_, rfl, ?_⟩; (try (rw [drewN_self wc]; generalize hq_ : World.drewN wc _ = wc; have n0_ : Aside0 (wc.heap[gb626]? = some (.cells #[.int .i64 a1_0, .int .i64 a1_1] 27 (0, 0))) := ⟨by rw [← hq_]; exact (be BK626)⟩; have n1_ : Aside0 (wc.heap[gb627]? = some (.cells #[.int .i64 0, .int .i64 0, .int .i64 0] 35 (0, 0))) := ⟨by rw [← hq_]; exact (be BK627)⟩; have n2_ : Aside0 (Below w.heap.size w wc) := ⟨by rw [← hq_]; exact (bl)⟩; clear BK626 BK627 HB hq_; have BK626 := n0_; have BK627 := n1_; have HB := n2_; clear n0_ n1_ n2_)); obtain ⟨hnb19, hnc19⟩ := zn NB626_627; obtain ⟨hcz20_0, hcz20_1, hfz20_0, hfz20_1⟩ := z2 BK626; have hcz21_0 : wc.cell? ⟨gb627, 0, none⟩ = some (.int .i64 0) := (blk_cell BK627.out 0).trans rfl; have hcz21_1 : wc.cell? ⟨gb627, 1, none⟩ = some (.int .i64 0) := (blk_cell BK627.out 1).trans rfl; have hcz21_2 : wc.cell? ⟨gb627, 2, none⟩ = some (.int .i64 0) := (blk_cell BK627.out 2).trans rfl; have hfz21_0 := blk_frozen BK627.out 0; have hfz21_1 := blk_frozen BK627.out 1; have hfz21_2 := blk_frozen BK627.out 2))
      refine bodyPost_ret (results_ct rfl _ _ gb627 35 #[.int .i64 0, .int .i64 0, .int .i64 0] (0, 0) _ rfl (bp) Tryz.underlying35 rfl (by kernel_rfl)) rfl ?_
      exact ⟨er, bl⟩
     ·obtain ⟨c18b0, c18b1⟩ := zy c18
      replace H := zi H
      obtain ⟨⟨t631, t632, t633, t634⟩, A22, H⟩ := H
      try dsimp only at H
      replace H := zi H
      obtain ⟨⟨t635, t636, t637, t638⟩, A23, H⟩ := H
      try dsimp only at H
      simp only [Option.some.injEq, Prod.mk.injEq] at H
      obtain ⟨rfl, rfl, rfl, rfl⟩ := H
      go_wp2_with (first | ((with_reducible refine zf 52 rfl ?_); refine g1 (some 20) Tryz.func52 #[.int .i64 a2] ?_; (with_reducible refine (impl_isLevel.calls a2 true _ A16.out).mono ?_); rintro e w' ⟨rfl, ⟨nd, rfl⟩⟩; refine ⟨_, rfl, ?_⟩; (try (rw [drewN_self wc]; generalize hq_ : World.drewN wc _ = wc; have n0_ : Aside0 (wc.heap[gb626]? = some (.cells #[.int .i64 a1_0, .int .i64 a1_1] 27 (0, 0))) := ⟨by rw [← hq_]; exact (be BK626)⟩; have n1_ : Aside0 (wc.heap[gb627]? = some (.cells #[.int .i64 0, .int .i64 0, .int .i64 0] 35 (0, 0))) := ⟨by rw [← hq_]; exact (be BK627)⟩; have n2_ : Aside0 (Below w.heap.size w wc) := ⟨by rw [← hq_]; exact (bl)⟩; clear BK626 BK627 HB hq_; have BK626 := n0_; have BK627 := n1_; have HB := n2_; clear n0_ n1_ n2_)); obtain ⟨hnb24, hnc24⟩ := zn NB626_627; obtain ⟨hcz25_0, hcz25_1, hfz25_0, hfz25_1⟩ := z2 BK626) | ((with_reducible refine zf 54 rfl ?_); refine g1 (some 34) Tryz.func54 #[.int .i64 a0, .int .i64 a1_0, .int .i64 a1_1, .int .i64 a2] ?_; (with_reducible refine (impl_ballAt.calls kj3 a0 a1_0 a1_1 a2 t631 t632 t633 t634 _ A22.out).mono ?_); rintro e w26 ⟨rfl, hb⟩; refine ⟨_, rfl, ?_⟩; replace BK626 := bb BK626 hb; replace BK627 := bb BK627 hb; replace HB := bs hb; (try clear hb)) | ((with_reducible refine zf 53 rfl ?_); refine g1 (some 37) Tryz.func53 #[.agg #[.int .i64 t631, .int .i64 t632, .int .i64 t633], .bool t634] ?_; (with_reducible refine (impl_fitted.calls t631 t632 t633 t634 t635 t636 t637 t638 _ A23.out).mono ?_); rintro e w27 ⟨rfl, hb⟩; refine ⟨_, rfl, ?_⟩; replace BK626 := bb BK626 hb; replace BK627 := bb BK627 hb; replace HB := bs hb; (try clear hb); obtain ⟨hcz28_0, hcz28_1, hcz28_2, hfz28_0, hfz28_1, hfz28_2⟩ := cq3 BK627))
      refine bodyPost_ret (results_ct rfl _ _ gb627 35 #[.int .i64 t635, .int .i64 t636, .int .i64 t637] (0, 0) _ rfl (bp) Tryz.underlying35 rfl (by kernel_rfl)) rfl ?_
      exact ⟨er, bl⟩
    ·replace c17 := Bool.eq_false_iff.mpr c17
     subst c17
     have H1 : (some (0, 0, 0, 2)) = some (r1, r2, r3, r4) := by rw [if_neg (show ¬ (false = true) by decide)] at H; exact H
     clear H
     have H := H1
     clear H1
     simp only [Option.some.injEq, Prod.mk.injEq] at H
     obtain ⟨rfl, rfl, rfl, rfl⟩ := H
     go_wp2_with (first | ((with_reducible refine zf 52 rfl ?_); refine g1 (some 20) Tryz.func52 #[.int .i64 a2] ?_; (with_reducible refine (impl_isLevel.calls a2 false _ A16.out).mono ?_); rintro e w' ⟨rfl, ⟨nd, rfl⟩⟩; refine ⟨_, rfl, ?_⟩; (try (rw [drewN_self wc]; generalize hq_ : World.drewN wc _ = wc; have n0_ : Aside0 (wc.heap[gb626]? = some (.cells #[.int .i64 a1_0, .int .i64 a1_1] 27 (0, 0))) := ⟨by rw [← hq_]; exact (be BK626)⟩; have n1_ : Aside0 (wc.heap[gb627]? = some (.cells #[.int .i64 0, .int .i64 0, .int .i64 0] 35 (0, 0))) := ⟨by rw [← hq_]; exact (be BK627)⟩; have n2_ : Aside0 (Below w.heap.size w wc) := ⟨by rw [← hq_]; exact (bl)⟩; clear BK626 BK627 HB hq_; have BK626 := n0_; have BK627 := n1_; have HB := n2_; clear n0_ n1_ n2_)); obtain ⟨hnb29, hnc29⟩ := zm NB626_627; have hcz30_0 : wc.cell? ⟨gb627, 0, none⟩ = some (.int .i64 0) := (blk_cell BK627.out 0).trans rfl; have hcz30_1 : wc.cell? ⟨gb627, 1, none⟩ = some (.int .i64 0) := (blk_cell BK627.out 1).trans rfl; have hcz30_2 : wc.cell? ⟨gb627, 2, none⟩ = some (.int .i64 0) := (blk_cell BK627.out 2).trans rfl; have hfz30_0 := blk_frozen BK627.out 0; have hfz30_1 := blk_frozen BK627.out 1; have hfz30_2 := blk_frozen BK627.out 2))
     refine bodyPost_ret (results_ct rfl _ _ gb627 35 #[.int .i64 0, .int .i64 0, .int .i64 0] (0, 0) _ rfl (bp) Tryz.underlying35 rfl (by kernel_rfl)) rfl ?_
     exact ⟨er, bl⟩

/-! ### spec_BallOfEnd: function 21 -/
def spec_BallOfEnd.j0 : Nat → Int → Int → Bool → Int → Int → Option (Int × Int × Int × Int)
 | 0, _, _, _, _, _ => none
 | k + 1, x0, x2, x10, x640000, x640001 => if x10 = true then (some (0, 0, 0, 1)) else ((spec_l01In.f x2 (-6) 6).bind fun t643 => (if t643 = true then (if x640001 = 0 then (some (0, 0, 0, 5)) else ((spec_l01Of.f k x0 x640000 x640001 x2).bind fun bt644 => (if bt644.2.2.2 = true then (some (bt644.1, bt644.2.1, bt644.2.2.1, 0)) else (some (0, 0, 0, 3))))) else (some (0, 0, 0, 2))))
def spec_BallOfEnd.f (k : Nat) (a0 : Int) (a1_0 : Int) (a1_1 : Int) (a2 : Int) : Option (Int × Int × Int × Int) := (spec_l01Prime.f a0).bind fun t641 => (if t641 = true then ((spec_l01End.f k a1_0 a1_1).bind fun t642 => (spec_BallOfEnd.j0 k a0 a2 (!t642) a1_0 a1_1)) else (spec_BallOfEnd.j0 k a0 a2 true a1_0 a1_1))
set_option maxHeartbeats 8000000 in
set_option maxRecDepth 100000 in
theorem spec_BallOfEnd.calls (k : Nat) (a0 : Int) (a1_0 : Int) (a1_1 : Int) (a2 : Int) (r1 : Int) (r2 : Int) (r3 : Int) (r4 : Int) (w : World) (h : spec_BallOfEnd.f k a0 a1_0 a1_1 a2 = some (r1, r2, r3, r4)) :
  Calls Tryz.prog 21 #[.int .i64 a0, .agg #[.int .i64 a1_0, .int .i64 a1_1], .int .i64 a2] w fun e w' => e = .returned (.tuple #[.agg #[.int .i64 r1, .int .i64 r2, .int .i64 r3], .int .i64 r4]) ∧ Below w.heap.size w w' := by
 have hu27 := Tryz.underlying27
 have hu35 := Tryz.underlying35
 have HB := Aside0.mk (Below.refl w.heap.size w)
 unfold spec_BallOfEnd.f at h
 have H := h
 clear h
 have HC4 := Aside0.mk H
 clear H
 go_enter Tryz.func21, Tryz.ntmps21
 go_upto_region 1 with (first | ((with_reducible refine zg 4 rfl ?_); refine zb 4 27 #[.int .i64 a1_0, .int .i64 a1_1] ?_; intro gb639 hg w5 BK639 hb; have GW639 := sg hg; replace HB := bs hb; clear hb hg) | ((with_reducible refine zg 6 rfl ?_); refine z3 6 35 0 0 0 ?_; intro gb640 hg w6 BK640 hb; have GW640 := sg hg; have NB639_640 := nl hg BK639; replace BK639 := bb BK639 hb; replace HB := bs hb; clear hb hg))
 (try simp only [Act.put, zq, zr, zt])
 go_cut [10] (fun v10 wc => ∃ (kq : Nat) (x10_3 : Bool), v10 = .bool x10_3 ∧ Aside0 (spec_BallOfEnd.j0 kq a0 a2 x10_3 a1_0 a1_1 = some (r1, r2, r3, r4)) ∧ Aside0 (kq ≤ k) ∧ Aside0 (wc.heap[gb639]? = some (.cells #[.int .i64 a1_0, .int .i64 a1_1] 27 (0, 0))) ∧ Aside0 (wc.heap[gb640]? = some (.cells #[.int .i64 0, .int .i64 0, .int .i64 0] 35 (0, 0))) ∧ Aside0 (Below w.heap.size w wc))
 case first =>
  have H := HC4.out
  clear HC4
  replace H := zi H
  obtain ⟨t641, A7, H⟩ := H
  try dsimp only at H
  by_cases c8 : t641 = true
  ·subst c8
   rw [if_pos rfl] at H
   replace H := zi H
   obtain ⟨t642, A9, H⟩ := H
   try dsimp only at H
   have H' := Aside0.mk H
   clear H
   go_wp2_with (first | ((with_reducible refine zf 46 rfl ?_); refine g1 (some 12) Tryz.func46 #[.int .i64 a0] ?_; (with_reducible refine (spec_l01Prime.calls a0 true _ A7.out).mono ?_); rintro e w' ⟨rfl, ⟨nd, rfl⟩⟩; refine ⟨_, rfl, ?_⟩; obtain ⟨hnb10, hnc10⟩ := zn NB639_640; obtain ⟨hcz11_0, hcz11_1, hfz11_0, hfz11_1⟩ := z2 BK639) | (go_at_call 55; (with_reducible refine (spec_l01End.calls k a1_0 a1_1 t642 _ A9.out).mono ?_); rintro e w12 ⟨rfl, hb⟩; replace BK639 := bb BK639 hb; replace BK640 := bb BK640 hb; replace HB := bs hb; (try clear hb)))
   go_meet
   case rel => exact ⟨_, (!t642), (by first | rfl | (simp; done) | (simp [*]; done)), H', ⟨by first | omega | exact Nat.le_refl _⟩, ⟨be BK639⟩, ⟨be BK640⟩, ⟨bl⟩⟩
  ·replace c8 := Bool.eq_false_iff.mpr c8
   subst c8
   have H1 : (spec_BallOfEnd.j0 k a0 a2 true a1_0 a1_1) = some (r1, r2, r3, r4) := by rw [if_neg (show ¬ (false = true) by decide)] at H; exact H
   clear H
   have H := H1
   clear H1
   have H' := Aside0.mk H
   clear H
   go_wp2_with (first | ((with_reducible refine zf 46 rfl ?_); refine g1 (some 12) Tryz.func46 #[.int .i64 a0] ?_; (with_reducible refine (spec_l01Prime.calls a0 false _ A7.out).mono ?_); rintro e w' ⟨rfl, ⟨nd, rfl⟩⟩; refine ⟨_, rfl, ?_⟩))
   go_meet
   case rel => exact ⟨_, (true), (by first | rfl | (simp; done) | (simp [*]; done)), H', ⟨by first | omega | exact Nat.le_refl _⟩, ⟨be BK639⟩, ⟨be BK640⟩, ⟨bl⟩⟩
 case rest =>
  clear HC4
  obtain ⟨kq, x10_3, rfl, HA, HJ3, BK639, BK640, HB⟩ := hcut
  cases kq with
  | zero => exact absurd HA.out (by simp [spec_BallOfEnd.j0])
  | succ kj3 =>
   have H := HA.out
   clear HA
   simp only [spec_BallOfEnd.j0] at H
   by_cases c13 : x10_3 = true
   ·subst c13
    rw [if_pos rfl] at H
    simp only [Option.some.injEq, Prod.mk.injEq] at H
    obtain ⟨rfl, rfl, rfl, rfl⟩ := H
    obtain ⟨hnb14, hnc14⟩ := zm NB639_640
    obtain ⟨hcz15_0, hcz15_1, hcz15_2, hfz15_0, hfz15_1, hfz15_2⟩ := cq3 BK640
    go_wp2
    refine bodyPost_ret (results_ct rfl _ _ gb640 35 #[.int .i64 0, .int .i64 0, .int .i64 0] (0, 0) _ rfl (bp) Tryz.underlying35 rfl (by kernel_rfl)) rfl ?_
    exact ⟨er, bl⟩
   ·replace c13 := Bool.eq_false_iff.mpr c13
    subst c13
    have H1 : ((spec_l01In.f a2 (-6) 6).bind fun t643 => (if t643 = true then (if a1_1 = 0 then (some (0, 0, 0, 5)) else ((spec_l01Of.f kj3 a0 a1_0 a1_1 a2).bind fun bt644 => (if bt644.2.2.2 = true then (some (bt644.1, bt644.2.1, bt644.2.2.1, 0)) else (some (0, 0, 0, 3))))) else (some (0, 0, 0, 2)))) = some (r1, r2, r3, r4) := by rw [if_neg (show ¬ (false = true) by decide)] at H; exact H
    clear H
    have H := H1
    clear H1
    replace H := zi H
    obtain ⟨t643, A16, H⟩ := H
    try dsimp only at H
    by_cases c17 : t643 = true
    ·subst c17
     rw [if_pos rfl] at H
     replace H := ii H
     rcases H with ⟨c18, H⟩ | ⟨c18, H⟩
     ·obtain ⟨c18b0, c18b1⟩ := zz c18
      clear c18
      simp only [Option.some.injEq, Prod.mk.injEq] at H
      obtain ⟨rfl, rfl, rfl, rfl⟩ := H
      go_wp2_with (first | ((with_reducible refine zf 32 rfl ?_); refine g1 (some 22) Tryz.func32 #[.int .i64 a2, .int .i64 (-6), .int .i64 6] ?_; (with_reducible refine (spec_l01In.calls a2 (-6) 6 true _ A16.out).mono ?_); rintro e w' ⟨rfl, ⟨nd, rfl⟩⟩; refine ⟨_, rfl, ?_⟩; (try (rw [drewN_self wc]; generalize hq_ : World.drewN wc _ = wc; have n0_ : Aside0 (wc.heap[gb639]? = some (.cells #[.int .i64 a1_0, .int .i64 a1_1] 27 (0, 0))) := ⟨by rw [← hq_]; exact (be BK639)⟩; have n1_ : Aside0 (wc.heap[gb640]? = some (.cells #[.int .i64 0, .int .i64 0, .int .i64 0] 35 (0, 0))) := ⟨by rw [← hq_]; exact (be BK640)⟩; have n2_ : Aside0 (Below w.heap.size w wc) := ⟨by rw [← hq_]; exact (bl)⟩; clear BK639 BK640 HB hq_; have BK639 := n0_; have BK640 := n1_; have HB := n2_; clear n0_ n1_ n2_)); obtain ⟨hnb19, hnc19⟩ := zn NB639_640; obtain ⟨hcz20_0, hcz20_1, hfz20_0, hfz20_1⟩ := z2 BK639; have hcz21_0 : wc.cell? ⟨gb640, 0, none⟩ = some (.int .i64 0) := (blk_cell BK640.out 0).trans rfl; have hcz21_1 : wc.cell? ⟨gb640, 1, none⟩ = some (.int .i64 0) := (blk_cell BK640.out 1).trans rfl; have hcz21_2 : wc.cell? ⟨gb640, 2, none⟩ = some (.int .i64 0) := (blk_cell BK640.out 2).trans rfl; have hfz21_0 := blk_frozen BK640.out 0; have hfz21_1 := blk_frozen BK640.out 1; have hfz21_2 := blk_frozen BK640.out 2))
      refine bodyPost_ret (results_ct rfl _ _ gb640 35 #[.int .i64 0, .int .i64 0, .int .i64 0] (0, 0) _ rfl (bp) Tryz.underlying35 rfl (by kernel_rfl)) rfl ?_
      exact ⟨er, bl⟩
     ·obtain ⟨c18b0, c18b1⟩ := zy c18
      replace H := zi H
      obtain ⟨⟨t644, t645, t646, t647⟩, A22, H⟩ := H
      try dsimp only at H
      by_cases c23 : t647 = true
      ·subst c23
       rw [if_pos rfl] at H
       simp only [Option.some.injEq, Prod.mk.injEq] at H
       obtain ⟨rfl, rfl, rfl, rfl⟩ := H
       go_wp2_with (first | ((with_reducible refine zf 32 rfl ?_); refine g1 (some 22) Tryz.func32 #[.int .i64 a2, .int .i64 (-6), .int .i64 6] ?_; (with_reducible refine (spec_l01In.calls a2 (-6) 6 true _ A16.out).mono ?_); rintro e w' ⟨rfl, ⟨nd, rfl⟩⟩; refine ⟨_, rfl, ?_⟩; (try (rw [drewN_self wc]; generalize hq_ : World.drewN wc _ = wc; have n0_ : Aside0 (wc.heap[gb639]? = some (.cells #[.int .i64 a1_0, .int .i64 a1_1] 27 (0, 0))) := ⟨by rw [← hq_]; exact (be BK639)⟩; have n1_ : Aside0 (wc.heap[gb640]? = some (.cells #[.int .i64 0, .int .i64 0, .int .i64 0] 35 (0, 0))) := ⟨by rw [← hq_]; exact (be BK640)⟩; have n2_ : Aside0 (Below w.heap.size w wc) := ⟨by rw [← hq_]; exact (bl)⟩; clear BK639 BK640 HB hq_; have BK639 := n0_; have BK640 := n1_; have HB := n2_; clear n0_ n1_ n2_)); obtain ⟨hnb24, hnc24⟩ := zn NB639_640; obtain ⟨hcz25_0, hcz25_1, hfz25_0, hfz25_1⟩ := z2 BK639) | ((with_reducible refine zf 56 rfl ?_); refine g1 (some 37) Tryz.func56 #[.int .i64 a0, .int .i64 a1_0, .int .i64 a1_1, .int .i64 a2] ?_; (with_reducible refine (spec_l01Of.calls kj3 a0 a1_0 a1_1 a2 t644 t645 t646 true _ A22.out).mono ?_); rintro e w26 ⟨rfl, hb⟩; refine ⟨_, rfl, ?_⟩; replace BK639 := bb BK639 hb; replace BK640 := bb BK640 hb; replace HB := bs hb; (try clear hb)) | ((with_reducible refine zg 8 rfl ?_); refine z3 8 35 0 0 0 ?_; intro gb648 hg w27 BK648 hb; have GW648 := sg hg; have NB639_648 := nl hg BK639; have NB640_648 := nl hg BK640; replace BK639 := bb BK639 hb; replace BK640 := bb BK640 hb; replace HB := bs hb; clear hb hg; obtain ⟨hnb28, hnc28⟩ := zm NB639_648; obtain ⟨hnb29, hnc29⟩ := zm NB640_648; obtain ⟨hcz30_0, hcz30_1, hcz30_2, hfz30_0, hfz30_1, hfz30_2⟩ := cq3 BK648; obtain ⟨hcz31_0, hcz31_1, hcz31_2, hfz31_0, hfz31_1, hfz31_2⟩ := cq3 BK640))
       refine bodyPost_ret (results_ct rfl _ _ gb640 35 #[.int .i64 t644, .int .i64 t645, .int .i64 t646] (0, 0) _ rfl (bp) Tryz.underlying35 rfl (by kernel_rfl)) rfl ?_
       exact ⟨er, bl⟩
      ·replace c23 := Bool.eq_false_iff.mpr c23
       subst c23
       have H1 : (some (0, 0, 0, 3)) = some (r1, r2, r3, r4) := by rw [if_neg (show ¬ (false = true) by decide)] at H; exact H
       clear H
       have H := H1
       clear H1
       simp only [Option.some.injEq, Prod.mk.injEq] at H
       obtain ⟨rfl, rfl, rfl, rfl⟩ := H
       go_wp2_with (first | ((with_reducible refine zf 32 rfl ?_); refine g1 (some 22) Tryz.func32 #[.int .i64 a2, .int .i64 (-6), .int .i64 6] ?_; (with_reducible refine (spec_l01In.calls a2 (-6) 6 true _ A16.out).mono ?_); rintro e w' ⟨rfl, ⟨nd, rfl⟩⟩; refine ⟨_, rfl, ?_⟩; (try (rw [drewN_self wc]; generalize hq_ : World.drewN wc _ = wc; have n0_ : Aside0 (wc.heap[gb639]? = some (.cells #[.int .i64 a1_0, .int .i64 a1_1] 27 (0, 0))) := ⟨by rw [← hq_]; exact (be BK639)⟩; have n1_ : Aside0 (wc.heap[gb640]? = some (.cells #[.int .i64 0, .int .i64 0, .int .i64 0] 35 (0, 0))) := ⟨by rw [← hq_]; exact (be BK640)⟩; have n2_ : Aside0 (Below w.heap.size w wc) := ⟨by rw [← hq_]; exact (bl)⟩; clear BK639 BK640 HB hq_; have BK639 := n0_; have BK640 := n1_; have HB := n2_; clear n0_ n1_ n2_)); obtain ⟨hnb32, hnc32⟩ := zn NB639_640; obtain ⟨hcz33_0, hcz33_1, hfz33_0, hfz33_1⟩ := z2 BK639) | ((with_reducible refine zf 56 rfl ?_); refine g1 (some 37) Tryz.func56 #[.int .i64 a0, .int .i64 a1_0, .int .i64 a1_1, .int .i64 a2] ?_; (with_reducible refine (spec_l01Of.calls kj3 a0 a1_0 a1_1 a2 t644 t645 t646 false _ A22.out).mono ?_); rintro e w34 ⟨rfl, hb⟩; refine ⟨_, rfl, ?_⟩; replace BK639 := bb BK639 hb; replace BK640 := bb BK640 hb; replace HB := bs hb; (try clear hb)) | ((with_reducible refine zg 8 rfl ?_); refine z3 8 35 0 0 0 ?_; intro gb648 hg w35 BK648 hb; have GW648 := sg hg; have NB639_648 := nl hg BK639; have NB640_648 := nl hg BK640; replace BK639 := bb BK639 hb; replace BK640 := bb BK640 hb; replace HB := bs hb; clear hb hg; obtain ⟨hnb36, hnc36⟩ := zm NB639_648; obtain ⟨hnb37, hnc37⟩ := zm NB640_648; obtain ⟨hcz38_0, hcz38_1, hcz38_2, hfz38_0, hfz38_1, hfz38_2⟩ := cq3 BK648; obtain ⟨hcz39_0, hcz39_1, hcz39_2, hfz39_0, hfz39_1, hfz39_2⟩ := cq3 BK640))
       refine bodyPost_ret (results_ct rfl _ _ gb640 35 #[.int .i64 0, .int .i64 0, .int .i64 0] (0, 0) _ rfl (bp) Tryz.underlying35 rfl (by kernel_rfl)) rfl ?_
       exact ⟨er, bl⟩
    ·replace c17 := Bool.eq_false_iff.mpr c17
     subst c17
     have H1 : (some (0, 0, 0, 2)) = some (r1, r2, r3, r4) := by rw [if_neg (show ¬ (false = true) by decide)] at H; exact H
     clear H
     have H := H1
     clear H1
     simp only [Option.some.injEq, Prod.mk.injEq] at H
     obtain ⟨rfl, rfl, rfl, rfl⟩ := H
     go_wp2_with (first | ((with_reducible refine zf 32 rfl ?_); refine g1 (some 22) Tryz.func32 #[.int .i64 a2, .int .i64 (-6), .int .i64 6] ?_; (with_reducible refine (spec_l01In.calls a2 (-6) 6 false _ A16.out).mono ?_); rintro e w' ⟨rfl, ⟨nd, rfl⟩⟩; refine ⟨_, rfl, ?_⟩; (try (rw [drewN_self wc]; generalize hq_ : World.drewN wc _ = wc; have n0_ : Aside0 (wc.heap[gb639]? = some (.cells #[.int .i64 a1_0, .int .i64 a1_1] 27 (0, 0))) := ⟨by rw [← hq_]; exact (be BK639)⟩; have n1_ : Aside0 (wc.heap[gb640]? = some (.cells #[.int .i64 0, .int .i64 0, .int .i64 0] 35 (0, 0))) := ⟨by rw [← hq_]; exact (be BK640)⟩; have n2_ : Aside0 (Below w.heap.size w wc) := ⟨by rw [← hq_]; exact (bl)⟩; clear BK639 BK640 HB hq_; have BK639 := n0_; have BK640 := n1_; have HB := n2_; clear n0_ n1_ n2_)); obtain ⟨hnb40, hnc40⟩ := zm NB639_640; have hcz41_0 : wc.cell? ⟨gb640, 0, none⟩ = some (.int .i64 0) := (blk_cell BK640.out 0).trans rfl; have hcz41_1 : wc.cell? ⟨gb640, 1, none⟩ = some (.int .i64 0) := (blk_cell BK640.out 1).trans rfl; have hcz41_2 : wc.cell? ⟨gb640, 2, none⟩ = some (.int .i64 0) := (blk_cell BK640.out 2).trans rfl; have hfz41_0 := blk_frozen BK640.out 0; have hfz41_1 := blk_frozen BK640.out 1; have hfz41_2 := blk_frozen BK640.out 2))
     refine bodyPost_ret (results_ct rfl _ _ gb640 35 #[.int .i64 0, .int .i64 0, .int .i64 0] (0, 0) _ rfl (bp) Tryz.underlying35 rfl (by kernel_rfl)) rfl ?_
     exact ⟨er, bl⟩

/-! ### spec_DrawEndText: function 22 -/
def spec_DrawEndText.f (k : Nat) (l0 : List Int) : Option (Int × Int) := (spec_l01From.f k l0).bind fun bt650 => ((spec_l01DrawEnd.f k bt650.1 bt650.2.1 bt650.2.2).bind fun bt654 => (some (bt654.1, bt654.2.1)))
set_option maxHeartbeats 8000000 in
set_option maxRecDepth 100000 in
theorem spec_DrawEndText.calls (k : Nat) (A0 : Option Addr) (c0 : Nat) (l0 : List Int) (r1 : Int) (r2 : Int) (w : World) (hr0 : Kd.C (Kd.int .u8) w A0 l0.length l0) (hc0 : l0.length ≤ c0) (h : spec_DrawEndText.f k l0 = some (r1, r2)) :
  Calls Tryz.prog 22 #[.slice A0 l0.length c0] w fun e w' => e = .returned (.agg #[.int .i64 r1, .int .i64 r2]) ∧ Below w.heap.size w w' := by
 have hu27 := Tryz.underlying27
 have HR0 := Aside0.mk hr0
 have HC0 := Aside0.mk hc0
 clear hr0 hc0
 have HB := Aside0.mk (Below.refl w.heap.size w)
 unfold spec_DrawEndText.f at h
 have H := h
 clear h
 replace H := zi H
 obtain ⟨⟨t650, t651, t652⟩, A2, H⟩ := H
 try dsimp only at H
 replace H := zi H
 obtain ⟨⟨t654, t655, t656, t657⟩, A3, H⟩ := H
 try dsimp only at H
 simp only [Option.some.injEq, Prod.mk.injEq] at H
 obtain ⟨rfl, rfl⟩ := H
 go_enter Tryz.func22, Tryz.ntmps22
 go_wp2_with (first | ((with_reducible refine zg 2 rfl ?_); refine zb 2 27 #[.int .i64 0, .int .i64 0] ?_; intro gb649 hg w4 BK649 hb; have GW649 := sg hg; replace HB := bs hb; clear hb hg) | ((with_reducible refine zf 26 rfl ?_); refine g1 (some 4) Tryz.func26 #[.slice A0 l0.length c0] ?_; (with_reducible refine (spec_l01From.calls k _ _ l0 t650 t651 t652 w _ ?side1 ?side2 ?side3 A2.out).mono ?_); (case side1 => exact bl); (case side2 => exact HR0.out); (case side3 => exact HC0.out); rintro e w5 ⟨g653, rfl, hi, hb, hb2⟩; refine ⟨_, rfl, ?_⟩; have HI653 := Aside0.mk (hi); have NB653_649 := Aside0.mk (IsS79.ne_blk hi (blk_below (g := gb649) (o := .cells #[.int .i64 0, .int .i64 0] 27 (0, 0)) (be BK649) hb2) (by decide)); have NB649_653 := Aside0.mk (Ne.symm (IsS79.ne_blk hi (blk_below (g := gb649) (o := .cells #[.int .i64 0, .int .i64 0] 27 (0, 0)) (be BK649) hb2) (by decide))); replace BK649 := Aside0.mk (blk_below (g := gb649) (o := .cells #[.int .i64 0, .int .i64 0] 27 (0, 0)) (be BK649) hb2); replace HB := Aside0.mk (hb); (try clear hb); (try clear hb2); (try clear hk); (try clear hi)) | ((with_reducible refine zf 49 rfl ?_); refine g1 (some 5) Tryz.func49 #[.pointer (some ⟨g653, 0, none⟩)] ?_; (with_reducible refine (spec_l01DrawEnd.calls k g653 t650 t651 t652 t654 t655 t656 t657 w _ ?side1 ?side2 A3.out).mono ?_); (case side1 => repeat (first | (with_reducible first | exact HI653.out | apply IsS79.alloc | apply IsS79.drewN | apply IsS79.drew | apply IsS79.set_1 | apply IsS79.set_2 | refine IsS79.far ?_ NB653_649.out _) | exact HI653.out)); (case side2 => repeat (first | (with_reducible first | exact HB.out | apply below_alloc | apply pw_below_drewN | apply below_drew1 | refine below_set ?_ (IsS79.ge HI653.out) | refine below_set ?_ GW649.out) | exact HB.out)); rintro e w6 ⟨rfl, hi, hb, hk⟩; refine ⟨_, rfl, ?_⟩; replace BK649 := kb hk BK649 NB649_653; replace HI653 := Aside0.mk (hi); replace HB := Aside0.mk (hb); (try clear hb hk); have hnb7 := NB649_653.out; have hnc7 := NB653_649.out; obtain ⟨hcz8_0, hcz8_1, hfz8_0, hfz8_1⟩ := z2 BK649))
 refine bodyPost_ret (results_cell_row rfl _ _ gb649 27 #[.int .i64 t654, .int .i64 t655] (0, 0) _ rfl (bp) Tryz.underlying27 rfl (by kernel_rfl)) rfl ?_
 exact ⟨er, by repeat (first | (with_reducible first | exact HB.out | apply below_alloc | apply pw_below_drewN | apply below_drew1 | refine below_set ?_ (IsS79.ge HI653.out) | refine below_set ?_ GW649.out) | exact HB.out)⟩

/-! ### spec_EndText: function 23 -/
def spec_EndText.f (k : Nat) (a0_0 : Int) (a0_1 : Int) : Option (ByteArray × Int) := (spec_l01End.f k a0_0 a0_1).bind fun t659 => (if t659 = true then ((spec_l01EndText.f k a0_0 a0_1).bind fun t660 => (some (t660, 0))) else (some ((⟨#[]⟩ : ByteArray), 1)))
set_option maxHeartbeats 8000000 in
set_option maxRecDepth 100000 in
theorem spec_EndText.calls (k : Nat) (a0_0 : Int) (a0_1 : Int) (r1 : ByteArray) (r2 : Int) (w : World) (h : spec_EndText.f k a0_0 a0_1 = some (r1, r2)) :
  Calls Tryz.prog 23 #[.agg #[.int .i64 a0_0, .int .i64 a0_1]] w fun e w' => e = .returned (.tuple #[.string r1, .int .i64 r2]) ∧ Below w.heap.size w w' := by
 have hu27 := Tryz.underlying27
 have HB := Aside0.mk (Below.refl w.heap.size w)
 unfold spec_EndText.f at h
 have H := h
 clear h
 replace H := zi H
 obtain ⟨t659, A2, H⟩ := H
 try dsimp only at H
 by_cases c3 : t659 = true
 ·subst c3
  rw [if_pos rfl] at H
  replace H := zi H
  obtain ⟨t660, A4, H⟩ := H
  try dsimp only at H
  simp only [Option.some.injEq, Prod.mk.injEq] at H
  obtain ⟨rfl, rfl⟩ := H
  go_enter Tryz.func23, Tryz.ntmps23
  go_wp2_with (first | ((with_reducible refine zg 1 rfl ?_); refine zb 1 27 #[.int .i64 a0_0, .int .i64 a0_1] ?_; intro gb658 hg w5 BK658 hb; have GW658 := sg hg; replace HB := bs hb; clear hb hg; obtain ⟨hcz6_0, hcz6_1, hfz6_0, hfz6_1⟩ := z2 BK658) | ((with_reducible refine zf 55 rfl ?_); refine g1 (some 5) Tryz.func55 #[.agg #[.int .i64 a0_0, .int .i64 a0_1]] ?_; (with_reducible refine (spec_l01End.calls k a0_0 a0_1 true _ A2.out).mono ?_); rintro e w7 ⟨rfl, hb⟩; refine ⟨_, rfl, ?_⟩; replace BK658 := bb BK658 hb; replace HB := bs hb; (try clear hb); obtain ⟨hcz8_0, hcz8_1, hfz8_0, hfz8_1⟩ := z2 BK658) | ((with_reducible refine zf 48 rfl ?_); refine g1 (some 8) Tryz.func48 #[.agg #[.int .i64 a0_0, .int .i64 a0_1]] ?_; (with_reducible refine (spec_l01EndText.calls k a0_0 a0_1 t660 _ A4.out).mono ?_); rintro e w9 ⟨rfl, hb⟩; refine ⟨_, rfl, ?_⟩; replace BK658 := bb BK658 hb; replace HB := bs hb; (try clear hb)))
  go_ret2
  exact ⟨er, bl⟩
 ·replace c3 := Bool.eq_false_iff.mpr c3
  subst c3
  have H1 : (some ((⟨#[]⟩ : ByteArray), 1)) = some (r1, r2) := by rw [if_neg (show ¬ (false = true) by decide)] at H; exact H
  clear H
  have H := H1
  clear H1
  simp only [Option.some.injEq, Prod.mk.injEq] at H
  obtain ⟨rfl, rfl⟩ := H
  go_enter Tryz.func23, Tryz.ntmps23
  go_wp2_with (first | ((with_reducible refine zg 1 rfl ?_); refine zb 1 27 #[.int .i64 a0_0, .int .i64 a0_1] ?_; intro gb658 hg w10 BK658 hb; have GW658 := sg hg; replace HB := bs hb; clear hb hg; obtain ⟨hcz11_0, hcz11_1, hfz11_0, hfz11_1⟩ := z2 BK658) | ((with_reducible refine zf 55 rfl ?_); refine g1 (some 5) Tryz.func55 #[.agg #[.int .i64 a0_0, .int .i64 a0_1]] ?_; (with_reducible refine (spec_l01End.calls k a0_0 a0_1 false _ A2.out).mono ?_); rintro e w12 ⟨rfl, hb⟩; refine ⟨_, rfl, ?_⟩; replace BK658 := bb BK658 hb; replace HB := bs hb; (try clear hb)))
  go_ret2
  exact ⟨er, bl⟩

/-! ### spec_DrawIsEnd: function 24 -/
def spec_DrawIsEnd.f (k : Nat) (l0 : List Int) : Option (Int × Int) := (spec_l01From.f k l0).bind fun bt662 => ((spec_l01DrawEnd.f k bt662.1 bt662.2.1 bt662.2.2).bind fun bt666 => (some (bt666.1, bt666.2.1)))
set_option maxHeartbeats 8000000 in
set_option maxRecDepth 100000 in
theorem spec_DrawIsEnd.calls (k : Nat) (A0 : Option Addr) (c0 : Nat) (l0 : List Int) (r1 : Int) (r2 : Int) (w : World) (hr0 : Kd.C (Kd.int .u8) w A0 l0.length l0) (hc0 : l0.length ≤ c0) (h : spec_DrawIsEnd.f k l0 = some (r1, r2)) :
  Calls Tryz.prog 24 #[.slice A0 l0.length c0] w fun e w' => e = .returned (.agg #[.int .i64 r1, .int .i64 r2]) ∧ Below w.heap.size w w' := by
 have hu27 := Tryz.underlying27
 have HR0 := Aside0.mk hr0
 have HC0 := Aside0.mk hc0
 clear hr0 hc0
 have HB := Aside0.mk (Below.refl w.heap.size w)
 unfold spec_DrawIsEnd.f at h
 have H := h
 clear h
 replace H := zi H
 obtain ⟨⟨t662, t663, t664⟩, A2, H⟩ := H
 try dsimp only at H
 replace H := zi H
 obtain ⟨⟨t666, t667, t668, t669⟩, A3, H⟩ := H
 try dsimp only at H
 simp only [Option.some.injEq, Prod.mk.injEq] at H
 obtain ⟨rfl, rfl⟩ := H
 go_enter Tryz.func24, Tryz.ntmps24
 go_wp2_with (first | ((with_reducible refine zg 2 rfl ?_); refine zb 2 27 #[.int .i64 0, .int .i64 0] ?_; intro gb661 hg w4 BK661 hb; have GW661 := sg hg; replace HB := bs hb; clear hb hg) | ((with_reducible refine zf 26 rfl ?_); refine g1 (some 4) Tryz.func26 #[.slice A0 l0.length c0] ?_; (with_reducible refine (spec_l01From.calls k _ _ l0 t662 t663 t664 w _ ?side1 ?side2 ?side3 A2.out).mono ?_); (case side1 => exact bl); (case side2 => exact HR0.out); (case side3 => exact HC0.out); rintro e w5 ⟨g665, rfl, hi, hb, hb2⟩; refine ⟨_, rfl, ?_⟩; have HI665 := Aside0.mk (hi); have NB665_661 := Aside0.mk (IsS79.ne_blk hi (blk_below (g := gb661) (o := .cells #[.int .i64 0, .int .i64 0] 27 (0, 0)) (be BK661) hb2) (by decide)); have NB661_665 := Aside0.mk (Ne.symm (IsS79.ne_blk hi (blk_below (g := gb661) (o := .cells #[.int .i64 0, .int .i64 0] 27 (0, 0)) (be BK661) hb2) (by decide))); replace BK661 := Aside0.mk (blk_below (g := gb661) (o := .cells #[.int .i64 0, .int .i64 0] 27 (0, 0)) (be BK661) hb2); replace HB := Aside0.mk (hb); (try clear hb); (try clear hb2); (try clear hk); (try clear hi)) | ((with_reducible refine zf 49 rfl ?_); refine g1 (some 5) Tryz.func49 #[.pointer (some ⟨g665, 0, none⟩)] ?_; (with_reducible refine (spec_l01DrawEnd.calls k g665 t662 t663 t664 t666 t667 t668 t669 w _ ?side1 ?side2 A3.out).mono ?_); (case side1 => repeat (first | (with_reducible first | exact HI665.out | apply IsS79.alloc | apply IsS79.drewN | apply IsS79.drew | apply IsS79.set_1 | apply IsS79.set_2 | refine IsS79.far ?_ NB665_661.out _) | exact HI665.out)); (case side2 => repeat (first | (with_reducible first | exact HB.out | apply below_alloc | apply pw_below_drewN | apply below_drew1 | refine below_set ?_ (IsS79.ge HI665.out) | refine below_set ?_ GW661.out) | exact HB.out)); rintro e w6 ⟨rfl, hi, hb, hk⟩; refine ⟨_, rfl, ?_⟩; replace BK661 := kb hk BK661 NB661_665; replace HI665 := Aside0.mk (hi); replace HB := Aside0.mk (hb); (try clear hb hk); have hnb7 := NB661_665.out; have hnc7 := NB665_661.out; obtain ⟨hcz8_0, hcz8_1, hfz8_0, hfz8_1⟩ := z2 BK661))
 refine bodyPost_ret (results_cell_row rfl _ _ gb661 27 #[.int .i64 t666, .int .i64 t667] (0, 0) _ rfl (bp) Tryz.underlying27 rfl (by kernel_rfl)) rfl ?_
 exact ⟨er, by repeat (first | (with_reducible first | exact HB.out | apply below_alloc | apply pw_below_drewN | apply below_drew1 | refine below_set ?_ (IsS79.ge HI665.out) | refine below_set ?_ GW661.out) | exact HB.out)⟩

/-! ### spec_IsEnd: function 25 -/
def spec_IsEnd.f (k : Nat) (a0_0 : Int) (a0_1 : Int) : Option (Bool) := (spec_l01End.f k a0_0 a0_1).bind fun t671 => (some t671)
set_option maxHeartbeats 8000000 in
set_option maxRecDepth 100000 in
theorem spec_IsEnd.calls (k : Nat) (a0_0 : Int) (a0_1 : Int) (r : Bool) (w : World) (h : spec_IsEnd.f k a0_0 a0_1 = some r) :
  Calls Tryz.prog 25 #[.agg #[.int .i64 a0_0, .int .i64 a0_1]] w fun e w' => e = .returned (.bool r) ∧ Below w.heap.size w w' := by
 have hu27 := Tryz.underlying27
 have HB := Aside0.mk (Below.refl w.heap.size w)
 unfold spec_IsEnd.f at h
 have H := h
 clear h
 replace H := zi H
 obtain ⟨t671, A2, H⟩ := H
 try dsimp only at H
 obtain rfl := Option.some.inj H
 go_enter Tryz.func25, Tryz.ntmps25
 go_wp2_with (first | ((with_reducible refine zg 1 rfl ?_); refine zb 1 27 #[.int .i64 a0_0, .int .i64 a0_1] ?_; intro gb670 hg w3 BK670 hb; have GW670 := sg hg; replace HB := bs hb; clear hb hg; obtain ⟨hcz4_0, hcz4_1, hfz4_0, hfz4_1⟩ := z2 BK670) | ((with_reducible refine zf 55 rfl ?_); refine g1 (some 4) Tryz.func55 #[.agg #[.int .i64 a0_0, .int .i64 a0_1]] ?_; (with_reducible refine (spec_l01End.calls k a0_0 a0_1 t671 _ A2.out).mono ?_); rintro e w5 ⟨rfl, hb⟩; refine ⟨_, rfl, ?_⟩; replace BK670 := bb BK670 hb; replace HB := bs hb; (try clear hb)))
 go_ret
 exact ⟨er, bl⟩

end Go.Proofs.YtgdkmchphpjifaaGreatDoor.PFnEnds
