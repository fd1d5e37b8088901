-- Printed by the kit's print and repaired by a program of this session.
import Derived.Test.YtpmepopagapeiaaPFnMediansx0
import Derived.Test.YtpmepopagapeiaaPFnMediansx5
namespace Go.Proofs.Ytpmepopagapeiaa.PFnMedians
open Go.RowKit Go.Proofs.YtpmepopagapeiaaW.PrintWords Go.Proofs.YtpmepopagapeiaaW.PrintLast Go.Proofs.YtpmepopagapeiaaW.PrintMore
attribute [local go_sem] max2_int min2_int max_two min_two max_three min_three max_four min_four
set_option linter.unusedVariables false
set_option linter.unusedSimpArgs false

/-! ### impl_power: function 103 -/
def impl_power.l0 : Nat → Int → Int → Int → Int → Option (Int)
 | 0, _, _, _, _ => none
 | k + 1, x0, x5, x6, x7 => if x7 < x6 then (impl_power.l0 k x0 (wrap64 (x5 * x0)) x6 (wrap64 (x7 + 1))) else (some x5)
def impl_power.f (k : Nat) (a0 : Int) (a1 : Int) : Option (Int) := impl_power.l0 k a0 1 a1 0
set_option maxHeartbeats 8000000 in
set_option maxRecDepth 100000 in
theorem impl_power.calls (k : Nat) (a0 : Int) (a1 : Int) (r : Int) (w : World) (h : impl_power.f k a0 a1 = some r) :
  Calls Try.prog 103 #[.int .i64 a0, .int .i64 a1] w fun e w' => e = .returned (.int .i64 r) ∧ Drawn0 w w' := by
 unfold impl_power.f at h
 have H := h
 clear h
 have H' := Aside0.mk H
 clear H
 go_enter Try.func103, Try.ntmps103
 go_wp2
 go_loopg [5, 7] k (fun kq v5 v7 w' => ∃ (x5_1 : Int) (x7_1 : Int), v5 = .int .i64 x5_1 ∧ v7 = .int .i64 x7_1 ∧ Aside0 (impl_power.l0 kq a0 x5_1 a1 x7_1 = some r) ∧ Aside0 (kq ≤ k) ∧ Drawn0 w w')
 case atStart => exact ⟨(1), (0), (by first | rfl | (simp; done) | (simp [*]; done)), (by first | rfl | (simp; done) | (simp [*]; done)), H', ⟨Nat.le_refl _⟩, by repeat (first | exact Drawn0.refl _ | apply Drawn0.step)⟩
 case round =>
  clear H'
  obtain ⟨x5_1, x7_1, rfl, rfl, HA, HK1, ⟨m1, rfl⟩⟩ := hrel
  cases gk with
  | zero => exact absurd HA.out (by simp [impl_power.l0])
  | succ k1 =>
   have H := HA.out
   clear HA
   simp only [impl_power.l0] at H
   replace H := ii H
   rcases H with ⟨c3, H⟩ | ⟨c3, H⟩
   ·have c3b0 := decide_eq_true c3
    clear c3
    have H' := Aside0.mk H
    clear H
    go_wp2
    go_roundg k1
    case measure => have := HK1.out; omega
    case rel => exact ⟨(wrap64 (x5_1 * a0)), (wrap64 (x7_1 + 1)), (by first | rfl | (simp; done) | (simp [*]; done)), (by first | rfl | (simp; done) | (simp [*]; done)), H', ⟨by have := HK1.out; omega⟩, by repeat (first | exact Drawn0.refl _ | apply Drawn0.step)⟩
   ·have c3b0 := decide_eq_false c3
    clear c3
    obtain rfl := Option.some.inj H
    go_wp2
    go_ret
    exact zx

/-! ### impl_isPrime: function 119 -/
def impl_isPrime.f (a0 : Int) : Option (Bool) := if a0 = 2 then (some true) else (if a0 = 3 then (some true) else (if a0 = 5 then (some true) else (some (a0 == 7))))
set_option maxHeartbeats 8000000 in
set_option maxRecDepth 100000 in
theorem impl_isPrime.calls (a0 : Int) (r : Bool) (w : World) (h : impl_isPrime.f a0 = some r) :
  Calls Try.prog 119 #[.int .i64 a0] w fun e w' => e = .returned (.bool r) ∧ Drawn0 w w' := by
 unfold impl_isPrime.f at h
 have H := h
 clear h
 replace H := ii H
 rcases H with ⟨c2, H⟩ | ⟨c2, H⟩
 ·obtain ⟨c2b0, c2b1⟩ := zz c2
  clear c2
  obtain rfl := Option.some.inj H
  go_enter Try.func119, Try.ntmps119
  go_wp2
  go_ret
  exact zx
 ·obtain ⟨c2b0, c2b1⟩ := zy c2
  replace H := ii H
  rcases H with ⟨c3, H⟩ | ⟨c3, H⟩
  ·obtain ⟨c3b0, c3b1⟩ := zz c3
   clear c3
   obtain rfl := Option.some.inj H
   go_enter Try.func119, Try.ntmps119
   go_wp2
   go_ret
   exact zx
  ·obtain ⟨c3b0, c3b1⟩ := zy c3
   replace H := ii H
   rcases H with ⟨c4, H⟩ | ⟨c4, H⟩
   ·obtain ⟨c4b0, c4b1⟩ := zz c4
    clear c4
    obtain rfl := Option.some.inj H
    go_enter Try.func119, Try.ntmps119
    go_wp2
    go_ret
    exact zx
   ·obtain ⟨c4b0, c4b1⟩ := zy c4
    obtain rfl := Option.some.inj H
    go_enter Try.func119, Try.ntmps119
    go_wp2
    go_ret
    exact zx

/-! ### impl_IsBall: function 65 -/
def impl_IsBall.j0 : Nat → Int → Bool → Int → Int → Int → Option (Bool)
 | 0, _, _, _, _, _ => none
 | k + 1, x0, x24, x210000, x210001, x210002 => if x24 = true then (some false) else (if (wrap64 (x210000 + x210002)) ≤ 0 then (if x210001 = 0 then (some (x210002 == 0)) else (some false)) else (if x210001 ≥ 0 then ((impl_power.f k x0 (wrap64 (x210000 + x210002))).bind fun t212 => (if x210001 < t212 then (if x210002 = 0 then (some true) else (if x0 = 0 then (none) else (some ((Int.tmod x210001 x0) != 0)))) else (some false))) else (some false)))
def impl_IsBall.f (k : Nat) (a0 : Int) (a1_0 : Int) (a1_1 : Int) (a1_2 : Int) : Option (Bool) := (impl_isPrime.f a0).bind fun t210 => (if t210 = true then ((impl_isLevel.f a1_0).bind fun t211 => (if t211 = true then (if a1_2 < 0 then (impl_IsBall.j0 k a0 true a1_0 a1_1 a1_2) else (impl_IsBall.j0 k a0 (decide (a1_2 > 6)) a1_0 a1_1 a1_2)) else (impl_IsBall.j0 k a0 true a1_0 a1_1 a1_2))) else (impl_IsBall.j0 k a0 true a1_0 a1_1 a1_2))
set_option maxHeartbeats 8000000 in
set_option maxRecDepth 100000 in
theorem impl_IsBall.calls (k : Nat) (a0 : Int) (a1_0 : Int) (a1_1 : Int) (a1_2 : Int) (r : Bool) (w : World) (h : impl_IsBall.f k a0 a1_0 a1_1 a1_2 = some r) :
  Calls Try.prog 65 #[.int .i64 a0, .agg #[.int .i64 a1_0, .int .i64 a1_1, .int .i64 a1_2]] w fun e w' => e = .returned (.bool r) ∧ Below w.heap.size w w' := by
 have hu27 := Try.underlying27
 have HB := Aside0.mk (Below.refl w.heap.size w)
 unfold impl_IsBall.f at h
 have H := h
 clear h
 have HC3 := Aside0.mk H
 clear H
 go_enter Try.func65, Try.ntmps65
 go_upto_region 1 with (first | ((with_reducible refine zg 3 rfl ?_); refine z3 3 27 a1_0 a1_1 a1_2 ?_; intro gb209 hg w4 BK209 hb; have GW209 := sg hg; replace HB := bs hb; clear hb hg))
 repeat (go_quiet (first | ((with_reducible refine zg 3 rfl ?_); refine z3 3 27 a1_0 a1_1 a1_2 ?_; intro gb209 hg w4 BK209 hb; have GW209 := sg hg; replace HB := bs hb; clear hb hg)); go_upto_region 1 with (first | ((with_reducible refine zg 3 rfl ?_); refine z3 3 27 a1_0 a1_1 a1_2 ?_; intro gb209 hg w4 BK209 hb; have GW209 := sg hg; replace HB := bs hb; clear hb hg)))
 (try simp only [Act.put, zq, zr, zt])
 go_cut [24] (fun v24 wc => ∃ (kq : Nat) (x24_2 : Bool), v24 = .bool x24_2 ∧ Aside0 (impl_IsBall.j0 kq a0 x24_2 a1_0 a1_1 a1_2 = some r) ∧ Aside0 (kq ≤ k) ∧ Aside0 (wc.heap[gb209]? = some (.cells #[.int .i64 a1_0, .int .i64 a1_1, .int .i64 a1_2] 27 (0, 0))) ∧ Aside0 (Below w.heap.size w wc))
 case first =>
  have H := HC3.out
  clear HC3
  replace H := zi H
  obtain ⟨t210, A5, H⟩ := H
  try dsimp only at H
  by_cases c6 : t210 = true
  ·subst c6
   rw [if_pos rfl] at H
   replace H := zi H
   obtain ⟨t211, A7, H⟩ := H
   try dsimp only at H
   by_cases c8 : t211 = true
   ·subst c8
    rw [if_pos rfl] at H
    replace H := ii H
    rcases H with ⟨c9, H⟩ | ⟨c9, H⟩
    ·have c9b0 := decide_eq_true c9
     clear c9
     (first | rw [c9b0] | (simp only [i64_w, i32_w]; rw [c9b0]) | skip)
     have H' := Aside0.mk H
     clear H
     go_wp2_with (first | (go_at_call 119; (with_reducible refine (impl_isPrime.calls a0 true _ A5.out).mono ?_); rintro e w' ⟨rfl, ⟨nd, rfl⟩⟩; (try first | exact zd | exact ze); obtain ⟨hcz10_0, hcz10_1, hcz10_2, hfz10_0, hfz10_1, hfz10_2⟩ := cq3 BK209) | (go_at_call 102; (with_reducible refine (impl_isLevel.calls a1_0 true _ A7.out).mono ?_); rintro e w' ⟨rfl, ⟨nd, rfl⟩⟩; (try first | exact zd | exact ze)))
     repeat (go_quiet (first | (go_at_call 119; (with_reducible refine (impl_isPrime.calls a0 true _ A5.out).mono ?_); rintro e w' ⟨rfl, ⟨nd, rfl⟩⟩; (try first | exact zd | exact ze); obtain ⟨hcz10_0, hcz10_1, hcz10_2, hfz10_0, hfz10_1, hfz10_2⟩ := cq3 BK209) | (go_at_call 102; (with_reducible refine (impl_isLevel.calls a1_0 true _ A7.out).mono ?_); rintro e w' ⟨rfl, ⟨nd, rfl⟩⟩; (try first | exact zd | exact ze))); try go_wp2_with (first | (go_at_call 119; (with_reducible refine (impl_isPrime.calls a0 true _ A5.out).mono ?_); rintro e w' ⟨rfl, ⟨nd, rfl⟩⟩; (try first | exact zd | exact ze); obtain ⟨hcz10_0, hcz10_1, hcz10_2, hfz10_0, hfz10_1, hfz10_2⟩ := cq3 BK209) | (go_at_call 102; (with_reducible refine (impl_isLevel.calls a1_0 true _ A7.out).mono ?_); rintro e w' ⟨rfl, ⟨nd, rfl⟩⟩; (try first | exact zd | exact ze))))
     go_meet
     case rel => exact ⟨_, (true), (by first | rfl | (simp; done) | (simp [*]; done)), H', ⟨by first | omega | exact Nat.le_refl _⟩, ⟨be BK209⟩, ⟨bl⟩⟩
    ·have c9b0 := decide_eq_false c9
     clear c9
     (first | rw [c9b0] | (simp only [i64_w, i32_w]; rw [c9b0]) | skip)
     have H' := Aside0.mk H
     clear H
     go_wp2_with (first | (go_at_call 119; (with_reducible refine (impl_isPrime.calls a0 true _ A5.out).mono ?_); rintro e w' ⟨rfl, ⟨nd, rfl⟩⟩; (try first | exact zd | exact ze); obtain ⟨hcz11_0, hcz11_1, hcz11_2, hfz11_0, hfz11_1, hfz11_2⟩ := cq3 BK209) | (go_at_call 102; (with_reducible refine (impl_isLevel.calls a1_0 true _ A7.out).mono ?_); rintro e w' ⟨rfl, ⟨nd, rfl⟩⟩; (try first | exact zd | exact ze)))
     repeat (go_quiet (first | (go_at_call 119; (with_reducible refine (impl_isPrime.calls a0 true _ A5.out).mono ?_); rintro e w' ⟨rfl, ⟨nd, rfl⟩⟩; (try first | exact zd | exact ze); obtain ⟨hcz11_0, hcz11_1, hcz11_2, hfz11_0, hfz11_1, hfz11_2⟩ := cq3 BK209) | (go_at_call 102; (with_reducible refine (impl_isLevel.calls a1_0 true _ A7.out).mono ?_); rintro e w' ⟨rfl, ⟨nd, rfl⟩⟩; (try first | exact zd | exact ze))); try go_wp2_with (first | (go_at_call 119; (with_reducible refine (impl_isPrime.calls a0 true _ A5.out).mono ?_); rintro e w' ⟨rfl, ⟨nd, rfl⟩⟩; (try first | exact zd | exact ze); obtain ⟨hcz11_0, hcz11_1, hcz11_2, hfz11_0, hfz11_1, hfz11_2⟩ := cq3 BK209) | (go_at_call 102; (with_reducible refine (impl_isLevel.calls a1_0 true _ A7.out).mono ?_); rintro e w' ⟨rfl, ⟨nd, rfl⟩⟩; (try first | exact zd | exact ze))))
     go_meet
     case rel => exact ⟨_, (decide (a1_2 > 6)), (by first | rfl | (simp; done) | (simp [*]; done)), H', ⟨by first | omega | exact Nat.le_refl _⟩, ⟨be BK209⟩, ⟨bl⟩⟩
   ·replace c8 := Bool.eq_false_iff.mpr c8
    subst c8
    have H1 : (impl_IsBall.j0 k a0 true a1_0 a1_1 a1_2) = some r := by rw [if_neg (show ¬ (false = true) by decide)] at H; exact H
    clear H
    have H := H1
    clear H1
    have H' := Aside0.mk H
    clear H
    go_wp2_with (first | (go_at_call 119; (with_reducible refine (impl_isPrime.calls a0 true _ A5.out).mono ?_); rintro e w' ⟨rfl, ⟨nd, rfl⟩⟩; (try first | exact zd | exact ze); obtain ⟨hcz12_0, hcz12_1, hcz12_2, hfz12_0, hfz12_1, hfz12_2⟩ := cq3 BK209) | (go_at_call 102; (with_reducible refine (impl_isLevel.calls a1_0 false _ A7.out).mono ?_); rintro e w' ⟨rfl, ⟨nd, rfl⟩⟩; (try first | exact zd | exact ze)))
    repeat (go_quiet (first | (go_at_call 119; (with_reducible refine (impl_isPrime.calls a0 true _ A5.out).mono ?_); rintro e w' ⟨rfl, ⟨nd, rfl⟩⟩; (try first | exact zd | exact ze); obtain ⟨hcz12_0, hcz12_1, hcz12_2, hfz12_0, hfz12_1, hfz12_2⟩ := cq3 BK209) | (go_at_call 102; (with_reducible refine (impl_isLevel.calls a1_0 false _ A7.out).mono ?_); rintro e w' ⟨rfl, ⟨nd, rfl⟩⟩; (try first | exact zd | exact ze))); try go_wp2_with (first | (go_at_call 119; (with_reducible refine (impl_isPrime.calls a0 true _ A5.out).mono ?_); rintro e w' ⟨rfl, ⟨nd, rfl⟩⟩; (try first | exact zd | exact ze); obtain ⟨hcz12_0, hcz12_1, hcz12_2, hfz12_0, hfz12_1, hfz12_2⟩ := cq3 BK209) | (go_at_call 102; (with_reducible refine (impl_isLevel.calls a1_0 false _ A7.out).mono ?_); rintro e w' ⟨rfl, ⟨nd, rfl⟩⟩; (try first | exact zd | exact ze))))
    go_meet
    case rel => exact ⟨_, (true), (by first | rfl | (simp; done) | (simp [*]; done)), H', ⟨by first | omega | exact Nat.le_refl _⟩, ⟨be BK209⟩, ⟨bl⟩⟩
  ·replace c6 := Bool.eq_false_iff.mpr c6
   subst c6
   have H1 : (impl_IsBall.j0 k a0 true a1_0 a1_1 a1_2) = some r := by rw [if_neg (show ¬ (false = true) by decide)] at H; exact H
   clear H
   have H := H1
   clear H1
   have H' := Aside0.mk H
   clear H
   go_wp2_with (first | (go_at_call 119; (with_reducible refine (impl_isPrime.calls a0 false _ A5.out).mono ?_); rintro e w' ⟨rfl, ⟨nd, rfl⟩⟩; (try first | exact zd | exact ze)))
   repeat (go_quiet (first | (go_at_call 119; (with_reducible refine (impl_isPrime.calls a0 false _ A5.out).mono ?_); rintro e w' ⟨rfl, ⟨nd, rfl⟩⟩; (try first | exact zd | exact ze))); try go_wp2_with (first | (go_at_call 119; (with_reducible refine (impl_isPrime.calls a0 false _ A5.out).mono ?_); rintro e w' ⟨rfl, ⟨nd, rfl⟩⟩; (try first | exact zd | exact ze))))
   go_meet
   case rel => exact ⟨_, (true), (by first | rfl | (simp; done) | (simp [*]; done)), H', ⟨by first | omega | exact Nat.le_refl _⟩, ⟨be BK209⟩, ⟨bl⟩⟩
 case rest =>
  clear HC3
  obtain ⟨kq, x24_2, rfl, HA, HJ2, BK209, HB⟩ := hcut
  cases kq with
  | zero => exact absurd HA.out (by simp [impl_IsBall.j0])
  | succ kj2 =>
   have H := HA.out
   clear HA
   simp only [impl_IsBall.j0] at H
   by_cases c13 : x24_2 = true
   ·subst c13
    rw [if_pos rfl] at H
    obtain rfl := Option.some.inj H
    go_wp2
    repeat (go_quiet (fail); try go_wp2)
    go_ret
    exact ⟨er, bl⟩
   ·replace c13 := Bool.eq_false_iff.mpr c13
    subst c13
    have H1 : (if (wrap64 (a1_0 + a1_2)) ≤ 0 then (if a1_1 = 0 then (some (a1_2 == 0)) else (some false)) else (if a1_1 ≥ 0 then ((impl_power.f kj2 a0 (wrap64 (a1_0 + a1_2))).bind fun t212 => (if a1_1 < t212 then (if a1_2 = 0 then (some true) else (if a0 = 0 then (none) else (some ((Int.tmod a1_1 a0) != 0)))) else (some false))) else (some false))) = some r := by rw [if_neg (show ¬ (false = true) by decide)] at H; exact H
    clear H
    have H := H1
    clear H1
    replace H := ii H
    rcases H with ⟨c14, H⟩ | ⟨c14, H⟩
    ·have c14b0 := decide_eq_true c14
     clear c14
     replace H := ii H
     rcases H with ⟨c15, H⟩ | ⟨c15, H⟩
     ·obtain ⟨c15b0, c15b1⟩ := zz c15
      clear c15
      obtain rfl := Option.some.inj H
      obtain ⟨hcz16_0, hcz16_1, hcz16_2, hfz16_0, hfz16_1, hfz16_2⟩ := cq3 BK209
      go_wp2
      repeat (go_quiet (fail); try go_wp2)
      go_ret
      exact ⟨er, bl⟩
     ·obtain ⟨c15b0, c15b1⟩ := zy c15
      obtain rfl := Option.some.inj H
      obtain ⟨hcz17_0, hcz17_1, hcz17_2, hfz17_0, hfz17_1, hfz17_2⟩ := cq3 BK209
      go_wp2
      repeat (go_quiet (fail); try go_wp2)
      go_ret
      exact ⟨er, bl⟩
    ·have c14b0 := decide_eq_false c14
     clear c14
     replace H := ii H
     rcases H with ⟨c18, H⟩ | ⟨c18, H⟩
     ·have c18b0 := decide_eq_true c18
      clear c18
      replace H := zi H
      obtain ⟨t212, A19, H⟩ := H
      try dsimp only at H
      replace H := ii H
      rcases H with ⟨c20, H⟩ | ⟨c20, H⟩
      ·have c20b0 := decide_eq_true c20
       clear c20
       replace H := ii H
       rcases H with ⟨c21, H⟩ | ⟨c21, H⟩
       ·obtain ⟨c21b0, c21b1⟩ := zz c21
        clear c21
        obtain rfl := Option.some.inj H
        obtain ⟨hcz22_0, hcz22_1, hcz22_2, hfz22_0, hfz22_1, hfz22_2⟩ := cq3 BK209
        go_wp2_with (first | (go_at_call 103; (with_reducible refine (impl_power.calls kj2 a0 (wrap64 (a1_0 + a1_2)) t212 _ A19.out).mono ?_); rintro e w' ⟨rfl, ⟨nd, rfl⟩⟩; (try first | exact zd | exact ze)))
        repeat (go_quiet (first | (go_at_call 103; (with_reducible refine (impl_power.calls kj2 a0 (wrap64 (a1_0 + a1_2)) t212 _ A19.out).mono ?_); rintro e w' ⟨rfl, ⟨nd, rfl⟩⟩; (try first | exact zd | exact ze))); try go_wp2_with (first | (go_at_call 103; (with_reducible refine (impl_power.calls kj2 a0 (wrap64 (a1_0 + a1_2)) t212 _ A19.out).mono ?_); rintro e w' ⟨rfl, ⟨nd, rfl⟩⟩; (try first | exact zd | exact ze))))
        go_ret
        exact ⟨er, bl⟩
       ·obtain ⟨c21b0, c21b1⟩ := zy c21
        replace H := ii H
        rcases H with ⟨c23, H⟩ | ⟨c23, H⟩
        ·exact absurd H (by simp)
        ·obtain ⟨c23b0, c23b1⟩ := zy c23
         obtain rfl := Option.some.inj H
         obtain ⟨hcz24_0, hcz24_1, hcz24_2, hfz24_0, hfz24_1, hfz24_2⟩ := cq3 BK209
         go_wp2_with (first | (go_at_call 103; (with_reducible refine (impl_power.calls kj2 a0 (wrap64 (a1_0 + a1_2)) t212 _ A19.out).mono ?_); rintro e w' ⟨rfl, ⟨nd, rfl⟩⟩; (try first | exact zd | exact ze)))
         repeat (go_quiet (first | (go_at_call 103; (with_reducible refine (impl_power.calls kj2 a0 (wrap64 (a1_0 + a1_2)) t212 _ A19.out).mono ?_); rintro e w' ⟨rfl, ⟨nd, rfl⟩⟩; (try first | exact zd | exact ze))); try go_wp2_with (first | (go_at_call 103; (with_reducible refine (impl_power.calls kj2 a0 (wrap64 (a1_0 + a1_2)) t212 _ A19.out).mono ?_); rintro e w' ⟨rfl, ⟨nd, rfl⟩⟩; (try first | exact zd | exact ze))))
         go_ret
         exact ⟨er, bl⟩
      ·have c20b0 := decide_eq_false c20
       clear c20
       obtain rfl := Option.some.inj H
       obtain ⟨hcz25_0, hcz25_1, hcz25_2, hfz25_0, hfz25_1, hfz25_2⟩ := cq3 BK209
       go_wp2_with (first | (go_at_call 103; (with_reducible refine (impl_power.calls kj2 a0 (wrap64 (a1_0 + a1_2)) t212 _ A19.out).mono ?_); rintro e w' ⟨rfl, ⟨nd, rfl⟩⟩; (try first | exact zd | exact ze)))
       repeat (go_quiet (first | (go_at_call 103; (with_reducible refine (impl_power.calls kj2 a0 (wrap64 (a1_0 + a1_2)) t212 _ A19.out).mono ?_); rintro e w' ⟨rfl, ⟨nd, rfl⟩⟩; (try first | exact zd | exact ze))); try go_wp2_with (first | (go_at_call 103; (with_reducible refine (impl_power.calls kj2 a0 (wrap64 (a1_0 + a1_2)) t212 _ A19.out).mono ?_); rintro e w' ⟨rfl, ⟨nd, rfl⟩⟩; (try first | exact zd | exact ze))))
       go_ret
       exact ⟨er, bl⟩
     ·have c18b0 := decide_eq_false c18
      clear c18
      obtain rfl := Option.some.inj H
      obtain ⟨hcz26_0, hcz26_1, hcz26_2, hfz26_0, hfz26_1, hfz26_2⟩ := cq3 BK209
      go_wp2
      repeat (go_quiet (fail); try go_wp2)
      go_ret
      exact ⟨er, bl⟩

/-! ### impl_mark: function 95 -/
def impl_mark.f (k : Nat) (a0 : Int) (a1_0 : Int) (a1_1 : Int) (a1_2 : Int) : Option (Int) := (impl_power.f k a0 (wrap64 (6 - a1_2))).bind fun t214 => (some (wrap64 (a1_1 * t214)))
set_option maxHeartbeats 8000000 in
set_option maxRecDepth 100000 in
theorem impl_mark.calls (k : Nat) (a0 : Int) (a1_0 : Int) (a1_1 : Int) (a1_2 : Int) (r : Int) (w : World) (h : impl_mark.f k a0 a1_0 a1_1 a1_2 = some r) :
  Calls Try.prog 95 #[.int .i64 a0, .agg #[.int .i64 a1_0, .int .i64 a1_1, .int .i64 a1_2]] w fun e w' => e = .returned (.int .i64 r) ∧ Below w.heap.size w w' := by
 have hu27 := Try.underlying27
 have HB := Aside0.mk (Below.refl w.heap.size w)
 unfold impl_mark.f at h
 have H := h
 clear h
 replace H := zi H
 obtain ⟨t214, A3, H⟩ := H
 try dsimp only at H
 obtain rfl := Option.some.inj H
 go_enter Try.func95, Try.ntmps95
 go_wp2_with (first | ((with_reducible refine zg 3 rfl ?_); refine z3 3 27 a1_0 a1_1 a1_2 ?_; intro gb213 hg w4 BK213 hb; have GW213 := sg hg; replace HB := bs hb; clear hb hg; obtain ⟨hcz5_0, hcz5_1, hcz5_2, hfz5_0, hfz5_1, hfz5_2⟩ := cq3 BK213) | (go_at_call 103; (with_reducible refine (impl_power.calls k a0 (wrap64 (6 - a1_2)) t214 _ A3.out).mono ?_); rintro e w' ⟨rfl, ⟨nd, rfl⟩⟩; (try first | exact zd | exact ze)))
 repeat (go_quiet (first | (go_at_call 103; (with_reducible refine (impl_power.calls k a0 (wrap64 (6 - a1_2)) t214 _ A3.out).mono ?_); rintro e w' ⟨rfl, ⟨nd, rfl⟩⟩; (try first | exact zd | exact ze))); try go_wp2_with (first | ((with_reducible refine zg 3 rfl ?_); refine z3 3 27 a1_0 a1_1 a1_2 ?_; intro gb213 hg w4 BK213 hb; have GW213 := sg hg; replace HB := bs hb; clear hb hg; obtain ⟨hcz5_0, hcz5_1, hcz5_2, hfz5_0, hfz5_1, hfz5_2⟩ := cq3 BK213) | (go_at_call 103; (with_reducible refine (impl_power.calls k a0 (wrap64 (6 - a1_2)) t214 _ A3.out).mono ?_); rintro e w' ⟨rfl, ⟨nd, rfl⟩⟩; (try first | exact zd | exact ze))))
 go_ret
 exact ⟨er, bl⟩

/-! ### impl_valuation: function 137 -/
def impl_valuation.l0 : Nat → Int → Int → Int → Option (Int)
 | 0, _, _, _ => none
 | k + 1, x0, x1, x5 => if x0 = 0 then (none) else (if (Int.tmod x1 x0) = 0 then (impl_valuation.l0 k x0 (wrap64 (Int.tdiv x1 x0)) (wrap64 (x5 + 1))) else (some x5))
def impl_valuation.f (k : Nat) (a0 : Int) (a1 : Int) : Option (Int) := if a1 = 0 then (some 1000) else (impl_valuation.l0 k a0 a1 0)
set_option maxHeartbeats 8000000 in
set_option maxRecDepth 100000 in
theorem impl_valuation.calls (k : Nat) (a0 : Int) (a1 : Int) (r : Int) (w : World) (h : impl_valuation.f k a0 a1 = some r) :
  Calls Try.prog 137 #[.int .i64 a0, .int .i64 a1] w fun e w' => e = .returned (.int .i64 r) ∧ Drawn0 w w' := by
 unfold impl_valuation.f at h
 have H := h
 clear h
 replace H := ii H
 rcases H with ⟨c3, H⟩ | ⟨c3, H⟩
 ·obtain ⟨c3b0, c3b1⟩ := zz c3
  clear c3
  obtain rfl := Option.some.inj H
  go_enter Try.func137, Try.ntmps137
  go_wp2
  go_ret
  exact zx
 ·obtain ⟨c3b0, c3b1⟩ := zy c3
  have H' := Aside0.mk H
  clear H
  go_enter Try.func137, Try.ntmps137
  go_wp2
  go_loopg [1, 5] k (fun kq v1 v5 w' => ∃ (x1_1 : Int) (x5_1 : Int), v1 = .int .i64 x1_1 ∧ v5 = .int .i64 x5_1 ∧ Aside0 (impl_valuation.l0 kq a0 x1_1 x5_1 = some r) ∧ Aside0 (kq ≤ k) ∧ Drawn0 w w')
  case atStart => exact ⟨(a1), (0), (by first | rfl | (simp; done) | (simp [*]; done)), (by first | rfl | (simp; done) | (simp [*]; done)), H', ⟨Nat.le_refl _⟩, by repeat (first | exact Drawn0.refl _ | apply Drawn0.step)⟩
  case round =>
   clear H'
   obtain ⟨x1_1, x5_1, rfl, rfl, HA, HK1, ⟨m1, rfl⟩⟩ := hrel
   cases gk with
   | zero => exact absurd HA.out (by simp [impl_valuation.l0])
   | succ k1 =>
    have H := HA.out
    clear HA
    simp only [impl_valuation.l0] at H
    replace H := ii H
    rcases H with ⟨c4, H⟩ | ⟨c4, H⟩
    ·exact absurd H (by simp)
    ·obtain ⟨c4b0, c4b1⟩ := zy c4
     replace H := ii H
     rcases H with ⟨c5, H⟩ | ⟨c5, H⟩
     ·obtain ⟨c5b0, c5b1⟩ := zz c5
      clear c5
      have H' := Aside0.mk H
      clear H
      go_wp2
      go_roundg k1
      case measure => have := HK1.out; omega
      case rel => exact ⟨(wrap64 (Int.tdiv x1_1 a0)), (wrap64 (x5_1 + 1)), (by first | rfl | (simp; done) | (simp [*]; done)), (by first | rfl | (simp; done) | (simp [*]; done)), H', ⟨by have := HK1.out; omega⟩, by repeat (first | exact Drawn0.refl _ | apply Drawn0.step)⟩
     ·obtain ⟨c5b0, c5b1⟩ := zy c5
      obtain rfl := Option.some.inj H
      go_wp2
      go_ret
      exact zx

/-! ### impl_joinLevel: function 139 -/
def impl_joinLevel.f (k : Nat) (a0 : Int) (a1_0 : Int) (a1_1 : Int) (a1_2 : Int) (a2_0 : Int) (a2_1 : Int) (a2_2 : Int) : Option (Int) := (impl_mark.f k a0 a1_0 a1_1 a1_2).bind fun t217 => ((impl_mark.f k a0 a2_0 a2_1 a2_2).bind fun t218 => ((impl_valuation.f k a0 (wrap64 (t217 - t218))).bind fun t219 => (some (mn (mn a1_0 a2_0) (wrap64 (t219 - 6))))))
def impl_joinLevel.T1 : Bool × List (List Nat × List Nat) := (true, [([], []), ([0], [0]), ([], []), ([2], [2]), ([], []), ([], []), ([], []), ([5, 6], [5, 6]), ([], []), ([], []), ([8, 9, 7], [8, 9]), ([7, 10], [7, 10]), ([4, 11, 10], [4, 11]), ([12], [12]), ([1, 3, 13], [1, 3, 13]), ([14, 12, 0, 1, 2, 3, 4, 5, 6, 7, 8, 9, 10, 11, 12, 13, 14], [14])])
def impl_joinLevel.B1 : List Nat := [0, 1, 0, 4, 0, 0, 0, 96, 0, 0, 992, 2016, 4080, 8176, 16383, 32767]
theorem impl_joinLevel.tab1 : rtab .any (opsOf Try.f139 1) = impl_joinLevel.T1 := by kernel_rfl
theorem impl_joinLevel.bits1 : waitsOk impl_joinLevel.T1.2 impl_joinLevel.B1 = true := by kernel_rfl
set_option maxHeartbeats 8000000 in
set_option maxRecDepth 100000 in
theorem impl_joinLevel.calls (k : Nat) (a0 : Int) (a1_0 : Int) (a1_1 : Int) (a1_2 : Int) (a2_0 : Int) (a2_1 : Int) (a2_2 : Int) (r : Int) (w : World) (h : impl_joinLevel.f k a0 a1_0 a1_1 a1_2 a2_0 a2_1 a2_2 = some r) :
  Calls Try.prog 139 #[.int .i64 a0, .agg #[.int .i64 a1_0, .int .i64 a1_1, .int .i64 a1_2], .agg #[.int .i64 a2_0, .int .i64 a2_1, .int .i64 a2_2]] w fun e w' => e = .returned (.int .i64 r) ∧ Below w.heap.size w w' := by
 have hu27 := Try.underlying27
 have HB := Aside0.mk (Below.refl w.heap.size w)
 unfold impl_joinLevel.f at h
 have H := h
 clear h
 replace H := zi H
 obtain ⟨t217, A4, H⟩ := H
 try dsimp only at H
 replace H := zi H
 obtain ⟨t218, A5, H⟩ := H
 try dsimp only at H
 replace H := zi H
 obtain ⟨t219, A6, H⟩ := H
 try dsimp only at H
 obtain ⟨ji7, hji7⟩ : ∃ j_ : Int, (mn a1_0 a2_0) = j_ := ⟨_, rfl⟩
 replace H : (some (mn (ji7) (wrap64 (t219 - 6)))) = some r := by first | (rw [hji7] at H; exact H) | (simp only [hji7] at H ⊢; exact H)
 (try rw [hji7] at A4)
 (try rw [hji7] at A5)
 (try rw [hji7] at A6)
 have hji7_ : (if a2_0 < a1_0 then a2_0 else a1_0) = ji7 := hji7
 obtain ⟨ji8, hji8⟩ : ∃ j_ : Int, (mn (ji7) (wrap64 (t219 - 6))) = j_ := ⟨_, rfl⟩
 replace H : (some ji8) = some r := by first | (rw [hji8] at H; exact H) | (simp only [hji8] at H ⊢; exact H)
 (try rw [hji8] at A4)
 (try rw [hji8] at A5)
 (try rw [hji8] at A6)
 have hji8_ : (if (wrap64 (t219 - 6)) < (ji7) then (wrap64 (t219 - 6)) else (ji7)) = ji8 := hji8
 obtain rfl := Option.some.inj H
 go_enter Try.func139, Try.ntmps139
 try go_wp2_with (first | ((with_reducible refine zg 4 rfl ?_); refine z3 4 27 a1_0 a1_1 a1_2 ?_; intro gb215 hg w9 BK215 hb; have GW215 := sg hg; replace HB := bs hb; clear hb hg) | ((with_reducible refine zg 5 rfl ?_); refine z3 5 27 a2_0 a2_1 a2_2 ?_; intro gb216 hg w10 BK216 hb; have GW216 := sg hg; have NB215_216 := nl hg BK215; replace BK215 := bb BK215 hb; replace HB := bs hb; clear hb hg))
 replace BK215 := Aside0.mk (blk_drew BK215.out)
 replace BK216 := Aside0.mk (blk_drew BK216.out)
 replace HB := Aside0.mk (below_drew1 HB.out)
 refine sw 16 (fun w' => w'.cell? ⟨gb215, 0, none⟩ = some (.int .i64 a1_0) ∧ w'.cell? ⟨gb215, 1, none⟩ = some (.int .i64 a1_1) ∧ w'.cell? ⟨gb215, 2, none⟩ = some (.int .i64 a1_2) ∧ w'.cell? ⟨gb216, 0, none⟩ = some (.int .i64 a2_0) ∧ w'.cell? ⟨gb216, 1, none⟩ = some (.int .i64 a2_1) ∧ w'.cell? ⟨gb216, 2, none⟩ = some (.int .i64 a2_2)) impl_joinLevel.tab1 impl_joinLevel.bits1 (e3r BK215 (e3 BK216)) (fun hHeld HT_ HW_ => ?_)
 generalize w10.drew = w11 at BK215 BK216 HB hHeld ⊢
 refine pu 0 (some 7) (tA 16 1) HT_ ?_
 refine pu 2 (some 9) (tA 16 5) HT_ ?_
 refine pu 4 (some 11) (tA 16 21) HT_ ?_
 refine pu 5 (some 12) (tA 16 53) HT_ ?_
 refine pu 8 (some 15) (tA 16 309) HT_ ?_
 refine tk6 1 (some 8) (tA 16 311) HT_ HW_ hHeld ?_
 refine tk6 3 (some 10) (tA 16 319) HT_ HW_ hHeld ?_
 refine tk6 6 (some 13) (tA 16 383) HT_ HW_ hHeld ?_
 refine tk6 9 (some 16) (tA 16 895) HT_ HW_ hHeld ?_
 refine o1 7 (some 14) (tA 16 1023) HT_ (fun K hK => ?_)
 refine gs Try.func95 #[.int .i64 a0, .agg #[.int .i64 a1_0, .int .i64 a1_1, .int .i64 a1_2]] ?_
 with_reducible refine (impl_mark.calls k a0 a1_0 a1_1 a1_2 t217 _ A4.out).mono ?_
 rintro e w12 ⟨rfl, hb⟩
 refine ⟨_, rfl, ?_⟩
 replace BK215 := bb BK215 hb
 replace BK216 := bb BK216 hb
 replace HB := bs hb
 (try clear hb)
 (try clear hb2)
 (try clear hk)
 (try clear hi)
 refine hK.out _ _ (e3r BK215 (e3 BK216)) (fun hHeld => ?_)
 clear hK K
 refine nm (some 14) ?_
 refine o1 10 (some 17) (tA 16 2047) HT_ (fun K hK => ?_)
 refine gs Try.func95 #[.int .i64 a0, .agg #[.int .i64 a2_0, .int .i64 a2_1, .int .i64 a2_2]] ?_
 with_reducible refine (impl_mark.calls k a0 a2_0 a2_1 a2_2 t218 _ A5.out).mono ?_
 rintro e w13 ⟨rfl, hb⟩
 refine ⟨_, rfl, ?_⟩
 replace BK215 := bb BK215 hb
 replace BK216 := bb BK216 hb
 replace HB := bs hb
 (try clear hb)
 (try clear hb2)
 (try clear hk)
 (try clear hi)
 refine hK.out _ _ (e3r BK215 (e3 BK216)) (fun hHeld => ?_)
 clear hK K
 refine nm (some 17) ?_
 refine pu 11 (some 18) (tA 16 4095) HT_ ?_
 refine o1 12 (some 19) (tA 16 8191) HT_ (fun K hK => ?_)
 refine gs Try.func137 #[.int .i64 a0, .int .i64 (wrap64 (t217 - t218))] ?_
 with_reducible refine (impl_valuation.calls k a0 (wrap64 (t217 - t218)) t219 _ A6.out).mono ?_
 rintro e w' ⟨rfl, ⟨nd, rfl⟩⟩
 refine ⟨_, rfl, ?_⟩
 refine hK.out _ _ (e3r BK215 (e3 BK216)) (fun hHeld => ?_)
 clear hK K
 refine nm (some 19) ?_
 refine pu 13 (some 20) (tA 16 16383) HT_ ?_
 refine pu 14 (some 21) (tA 16 32767) HT_ ?_
 refine pu 15 (some 6) (tA 16 65535) HT_ ?_
 refine done_ (done_of HT_.out (by kernel_rfl)) ?_
 try go_wp2
 go_ret
 exact ⟨by first | rfl | (simp [errW_none, errW_some] <;> rfl) | (simp only [← hji7, ← hji8]; first | rfl | (simp [errW_none, errW_some] <;> rfl)) | (simp [*, errW_none, errW_some] <;> rfl), bl⟩

end Go.Proofs.Ytpmepopagapeiaa.PFnMedians
